/- Functions of the program as Lean functions, that each call comes to what they say, and what holds of them; part 14 of 15; no conditions beyond those that each theorem names. -/
import Derived.KernelRfl
import Derived.Laws.BitsLemmas
import Derived.Test.YtcjddikalgnhpaaK1
import Derived.Test.YtcjddikalgnhpaaK2
import Derived.Test.YtcjddikalgnhpaaK5
import Derived.Test.YtcjddikalgnhpaaK6
import Derived.Test.YtcjddikalgnhpaaK7
import Derived.Test.YtcjddikalgnhpaaK8
namespace Go.Proofs.Ytcjddikalgnhpaa.Gr
open Go.RowKit Go.Proofs.Ytcjddikalgnhpaa.P Go.Proofs.YtcjddikalgnhpaaW.PrintWords Go.Proofs.YtcjddikalgnhpaaW.PrintLast
theorem l1In_eq (a lo hi : Int) : spec_l1In.f a lo hi = some (decide (lo ≤ a ∧ a ≤ hi)) := by
  unfold spec_l1In.f
  by_cases h : a ≥ lo
  · rw [if_pos h]
    simp [show lo ≤ a from h]
  · rw [if_neg h]
    simp [show ¬ lo ≤ a from h]
theorem rd_lt (l : List S71) (i : Int) (h0 : 0 ≤ i) (h1 : i < l.length) : l[i.toNat]? = some (rd_T71 l i) := by
  unfold rd_T71
  rw [List.getD_eq_getElem?_getD, List.getElem?_eq_getElem (by omega)]
  rfl
def rowF (h : Int → Int → Bool) (x : Int) : Nat → Int → List S71
  | 0, _ => []
  | d + 1, y => (if h x y = true then [⟨x, y⟩] else []) ++ rowF h x d (y + 1)
def allF (h : Int → Int → Bool) : Nat → Int → List S71
  | 0, _ => []
  | d + 1, x => rowF h x d (x + 1) ++ allF h d (x + 1)
/-- The pairs x < y below n for which h says yes, in order. -/
def pairs (h : Int → Int → Bool) (n : Int) : List S71 := allF h n.toNat 0
theorem rowF_len (h : Int → Int → Bool) (x : Int) : ∀ d y, (rowF h x d y).length ≤ d
  | 0, _ => Nat.le_refl _
  | d + 1, y => by
    have := rowF_len h x d (y + 1)
    unfold rowF
    rw [List.length_append]
    split <;> simp <;> omega
theorem allF_len (h : Int → Int → Bool) (N : Nat) : ∀ d x, d ≤ N → (allF h d x).length ≤ d * N
  | 0, _, _ => by simp [allF]
  | d + 1, x, hd => by
    have h1 := rowF_len h x d (x + 1)
    have h2 := allF_len h N d (x + 1) (by omega)
    unfold allF
    rw [List.length_append, Nat.succ_mul]
    omega
theorem pairs_len (h : Int → Int → Bool) (n : Int) (hn : n ≤ 1000) : (pairs h n).length ≤ 1000000 := by
  have h1 := allF_len h 1000 n.toNat 0 (by omega)
  unfold pairs
  omega
theorem rowF_congr (h h' : Int → Int → Bool) (x : Int) : ∀ (d : Nat) (y : Int), (∀ z : Int, y ≤ z → z < y + (d : Int) → h x z = h' x z) → rowF h x d y = rowF h' x d y
  | 0, _, _ => rfl
  | d + 1, y, e => by
    unfold rowF
    rw [e y (by omega) (by omega), rowF_congr h h' x d (y + 1) (fun z h1 h2 => e z (by omega) (by omega))]
theorem allF_congr (h h' : Int → Int → Bool) : ∀ (d : Nat) (x : Int), (∀ a b : Int, x ≤ a → a < b → b < x + (d : Int) → h a b = h' a b) → allF h d x = allF h' d x
  | 0, _, _ => rfl
  | d + 1, x, e => by
    unfold allF
    rw [rowF_congr h h' x d (x + 1) (fun z h1 h2 => e x z (by omega) (by omega) (by omega)), allF_congr h h' d (x + 1) (fun a b h1 h2 h3 => e a b (by omega) h2 (by omega))]
theorem pairs_congr (h h' : Int → Int → Bool) (n : Int) (e : ∀ a b : Int, 0 ≤ a → a < b → b < n → h a b = h' a b) : pairs h n = pairs h' n :=
  allF_congr h h' n.toNat 0 (fun a b h1 h2 h3 => e a b h1 h2 (by omega))
set_option maxRecDepth 10000 in
theorem by_row (h : Int → Int → Bool) (n x : Int) (rest : List S71) (hn : n ≤ 1000) (hx0 : 0 ≤ x) (hnx : ∀ es : List S71, (es.length : Int) ≤ (x + 1) * 1000 → Ev (fun k => impl_graphBy.l0 k h n (x + 1) es) (es ++ rest)) :
    ∀ (d : Nat) (y : Int) (es : List S71), x < y → n - y = d → (es.length : Int) ≤ x * 1000 + y → Ev (fun k => impl_graphBy.l1 k h n x y es) (es ++ (rowF h x d y ++ rest)) := by
  intro d
  induction d with
  | zero =>
    intro y es hxy hd hes
    have hw : wrap64 (x + 1) = x + 1 := by unfold wrap64; omega
    refine Ev.step (fun k => ?_) (hnx es (by omega))
    simp only [impl_graphBy.l1]
    rw [if_neg (by omega), hw]
  | succ d ih =>
    intro y es hxy hd hes
    have hw : wrap64 (y + 1) = y + 1 := by unfold wrap64; omega
    by_cases hc : h x y = true
    · have hr := ih (y + 1) (es ++ [⟨x, y⟩]) (by omega) (by omega) (by rw [List.length_append, List.length_singleton]; omega)
      have e : es ++ (rowF h x (d + 1) y ++ rest) = es ++ [⟨x, y⟩] ++ (rowF h x d (y + 1) ++ rest) := by
        conv => lhs; unfold rowF
        rw [if_pos hc]
        simp
      rw [e]
      refine Ev.step (fun k => ?_) hr
      simp only [impl_graphBy.l1]
      rw [if_pos (by omega), if_pos hc, if_pos (by omega), hw]
    · have hr := ih (y + 1) es (by omega) (by omega) (by omega)
      have e : es ++ (rowF h x (d + 1) y ++ rest) = es ++ (rowF h x d (y + 1) ++ rest) := by
        conv => lhs; unfold rowF
        rw [if_neg hc]
        simp
      rw [e]
      refine Ev.step (fun k => ?_) hr
      simp only [impl_graphBy.l1]
      rw [if_pos (by omega), if_neg hc, hw]
set_option maxRecDepth 10000 in
theorem by_all (h : Int → Int → Bool) (n : Int) (hn : n ≤ 1000) : ∀ (d : Nat) (x : Int) (es : List S71), 0 ≤ x → n - x = d → (es.length : Int) ≤ x * 1000 → Ev (fun k => impl_graphBy.l0 k h n x es) (es ++ allF h d x) := by
  intro d
  induction d with
  | zero =>
    intro x es hx hd hes
    rw [show allF h 0 x = [] from rfl, List.append_nil]
    refine Ev.step (f := fun _ => some es) (fun k => ?_) (Ev.now es)
    simp only [impl_graphBy.l0]
    rw [if_neg (by omega)]
  | succ d ih =>
    intro x es hx hd hes
    have hw : wrap64 (x + 1) = x + 1 := by unfold wrap64; omega
    have hr := by_row h n x (allF h d (x + 1)) hn hx (fun es' he => ih (x + 1) es' (by omega) (by omega) he) d (x + 1) es (by omega) (by omega) (by omega)
    rw [show allF h (d + 1) x = rowF h x d (x + 1) ++ allF h d (x + 1) from rfl]
    refine Ev.step (fun k => ?_) hr
    simp only [impl_graphBy.l0]
    rw [if_pos (by omega), hw]
theorem by_ev (h : Int → Int → Bool) (n : Int) (h0 : 0 ≤ n) (hn : n ≤ 1000) : Ev (fun k => impl_graphBy.f k h n) (pairs h n) := by
  obtain ⟨K, hK⟩ := by_all h n hn n.toNat 0 [] (by omega) (by omega) (by simp)
  dsimp only at hK
  exact ⟨K, fun k hk => by dsimp only; unfold impl_graphBy.f; rw [hK k hk]; rfl⟩
theorem okBy_all (c : Int → Int → Option Bool) (n : Int) (h : ∀ x y, 0 ≤ x → x < y → y < n → (c x y).isSome = true) : okBy c n = true := by
  unfold okBy
  rw [List.all_eq_true]
  intro y hy
  rw [List.all_eq_true]
  intro x hx
  have hy := List.mem_range.1 hy
  have hx := List.mem_range.1 hx
  exact h x y (by omega) (by omega) (by omega)
theorem pcmp_iff (a b : S71) : 0 ≤ pcmp a b ↔ ¬ (a.f0 < b.f0 ∨ (a.f0 = b.f0 ∧ a.f1 < b.f1)) := by
  unfold pcmp
  by_cases c1 : a.f0 < b.f0
  · simp [c1]
  · by_cases c2 : a.f0 > b.f0
    · have h : ¬ a.f0 = b.f0 := by omega
      simp [c1, c2, h]
    · have h : a.f0 = b.f0 := by omega
      by_cases c3 : a.f1 < b.f1
      · simp [c3, h]
      · by_cases c4 : a.f1 > b.f1
        · simp [c3, c4, h]
        · simp [c3, c4, h]
theorem before_eq (a b c d : Int) : spec_l2Before.f a b c d = some (decide (a < c ∨ (a = c ∧ b < d))) := by
  unfold spec_l2Before.f
  by_cases c1 : a < c
  · simp [c1]
  · by_cases c2 : a = c
    · subst c2
      simp
    · simp [c1, c2]
theorem good_both (l : List S71) (s : Int) (h0 : 0 ≤ s) (h8 : s ≤ 8) (hl : l.length ≤ 1048576) : ∀ (d : Nat) (i : Int), 0 ≤ i → (l.length : Int) - i = d →
    ∃ b, (b = true → ∀ j : Int, i ≤ j → j < l.length → 0 ≤ (rd_T71 l j).f0 ∧ (rd_T71 l j).f0 < (rd_T71 l j).f1 ∧ (rd_T71 l j).f1 < s ∧ (0 < j → (rd_T71 l (j - 1)).f0 < (rd_T71 l j).f0 ∨ ((rd_T71 l (j - 1)).f0 = (rd_T71 l j).f0 ∧ (rd_T71 l (j - 1)).f1 < (rd_T71 l j).f1))) ∧ Ev (fun k => spec_l2Good.l0 k i s l) b ∧ Ev (fun k => impl_IsGraph.l0 k l s i) b := by
  intro d
  induction d with
  | zero =>
    intro i hi hd
    have hn : ¬ i < (l.length : Int) := by omega
    refine ⟨true, fun _ j h1 h2 => by omega, Ev.step (f := fun _ => some true) (fun k => ?_) (Ev.now true), Ev.step (f := fun _ => some true) (fun k => ?_) (Ev.now true)⟩
    · simp only [spec_l2Good.l0]
      rw [if_neg hn, l1In_eq, Option.bind_some, decide_eq_true ⟨h0, h8⟩]
    · simp only [impl_IsGraph.l0]
      rw [if_neg hn]
  | succ d ih =>
    intro i hi hd
    have hp : i < (l.length : Int) := by omega
    obtain ⟨b, hg, hs, hm⟩ := ih (i + 1) (by omega) (by omega)
    have hw : wrap64 (i + 1) = i + 1 := by unfold wrap64; omega
    have hw1 : wrap64 (i - 1) = i - 1 := by unfold wrap64; omega
    have hw2 : wrap64 (s - 1) = s - 1 := by unfold wrap64; omega
    have no : ∀ k, (0 ≤ (rd_T71 l i).f0 ∧ (rd_T71 l i).f0 < (rd_T71 l i).f1 ∧ (rd_T71 l i).f1 < s ∧ (0 < i → (rd_T71 l (i - 1)).f0 < (rd_T71 l i).f0 ∨ ((rd_T71 l (i - 1)).f0 = (rd_T71 l i).f0 ∧ (rd_T71 l (i - 1)).f1 < (rd_T71 l i).f1))) ∨
        (spec_l2Good.l0 (k + 1) i s l = some false ∧ impl_IsGraph.l0 (k + 1) l s i = some false) := by
      intro k
      simp only [spec_l2Good.l0, impl_IsGraph.l0, l1In_eq, before_eq, hw, hw1, hw2, pcmp_iff, if_pos hp, if_pos hi, Option.bind_some, decide_eq_true_eq]
      by_cases c1 : 0 ≤ (rd_T71 l i).f0
      · by_cases c2 : (rd_T71 l i).f0 < (rd_T71 l i).f1
        · by_cases c3 : (rd_T71 l i).f1 < s
          · by_cases c4 : 0 < i
            · by_cases c5 : (rd_T71 l (i - 1)).f0 < (rd_T71 l i).f0 ∨ ((rd_T71 l (i - 1)).f0 = (rd_T71 l i).f0 ∧ (rd_T71 l (i - 1)).f1 < (rd_T71 l i).f1)
              · exact .inl ⟨c1, c2, c3, fun _ => c5⟩
              · right
                rw [if_pos ⟨c1, by omega⟩, if_pos ⟨by omega, by omega⟩, if_neg (by omega), if_pos c4, if_pos (by omega), if_pos (by omega), if_neg c5, if_neg (by omega), if_neg (by omega), if_neg (by omega), if_pos c4, if_pos c5]
                exact ⟨rfl, rfl⟩
            · exact .inl ⟨c1, c2, c3, fun h => absurd h c4⟩
          · right
            refine ⟨?_, ?_⟩
            · by_cases c6 : 0 ≤ (rd_T71 l i).f0 ∧ (rd_T71 l i).f0 ≤ s - 1
              · rw [if_pos c6, if_neg (by omega)]
              · rw [if_neg c6]
            · rw [if_neg (by omega), if_neg (by omega), if_pos (by omega)]
        · right
          refine ⟨?_, ?_⟩
          · by_cases c6 : 0 ≤ (rd_T71 l i).f0 ∧ (rd_T71 l i).f0 ≤ s - 1
            · rw [if_pos c6]
              by_cases c7 : 0 ≤ (rd_T71 l i).f1 ∧ (rd_T71 l i).f1 ≤ s - 1
              · rw [if_pos c7, if_pos (by omega)]
              · rw [if_neg c7]
            · rw [if_neg c6]
          · rw [if_neg (by omega), if_pos (by omega)]
      · right
        rw [if_neg (by omega), if_pos (by omega)]
        exact ⟨rfl, rfl⟩
    by_cases hc : 0 ≤ (rd_T71 l i).f0 ∧ (rd_T71 l i).f0 < (rd_T71 l i).f1 ∧ (rd_T71 l i).f1 < s ∧ (0 < i → (rd_T71 l (i - 1)).f0 < (rd_T71 l i).f0 ∨ ((rd_T71 l (i - 1)).f0 = (rd_T71 l i).f0 ∧ (rd_T71 l (i - 1)).f1 < (rd_T71 l i).f1))
    · obtain ⟨c1, c2, c3, c5⟩ := hc
      refine ⟨b, fun hb j h1 h2 => ?_, Ev.step (fun k => ?_) hs, Ev.step (fun k => ?_) hm⟩
      · by_cases hj : j = i
        · subst hj
          exact ⟨c1, c2, c3, c5⟩
        · exact hg hb j (by omega) h2
      · simp only [spec_l2Good.l0, l1In_eq, before_eq, hw, hw1, hw2, if_pos hp, if_pos hi, Option.bind_some, decide_eq_true_eq]
        rw [if_pos ⟨c1, by omega⟩, if_pos ⟨by omega, by omega⟩, if_neg (by omega)]
        by_cases c4 : i > 0
        · rw [if_pos c4, if_pos (by omega), if_pos (by omega), if_pos (c5 c4)]
        · rw [if_neg c4]
      · simp only [impl_IsGraph.l0, hw, hw1, pcmp_iff, if_pos hp, if_pos hi]
        rw [if_neg (by omega), if_neg (by omega), if_neg (by omega)]
        by_cases c4 : i > 0
        · rw [if_pos c4, if_neg (fun h => h (c5 c4))]
        · rw [if_neg c4]
    · refine ⟨false, fun h => (by cases h), Ev.step (f := fun _ => some false) (fun k => ?_) (Ev.now false), Ev.step (f := fun _ => some false) (fun k => ?_) (Ev.now false)⟩
      · rcases no k with h | h
        · exact absurd h hc
        · exact h.1
      · rcases no k with h | h
        · exact absurd h hc
        · exact h.2
theorem good_not (l : List S71) (s : Int) (h8 : ¬ (0 ≤ s ∧ s ≤ 8)) (hl : l.length ≤ 1048576) : ∀ (d : Nat) (i : Int), 0 ≤ i → (l.length : Int) - i = d →
    Ev (fun k => spec_l2Good.l0 k i s l) false := by
  intro d
  induction d with
  | zero =>
    intro i hi hd
    have hn : ¬ i < (l.length : Int) := by omega
    refine Ev.step (f := fun _ => some false) (fun k => ?_) (Ev.now false)
    simp only [spec_l2Good.l0]
    rw [if_neg hn, l1In_eq, Option.bind_some, decide_eq_false h8]
  | succ d ih =>
    intro i hi hd
    have hp : i < (l.length : Int) := by omega
    have hw : wrap64 (i + 1) = i + 1 := by unfold wrap64; omega
    have hw1 : wrap64 (i - 1) = i - 1 := by unfold wrap64; omega
    have hr := ih (i + 1) (by omega) (by omega)
    have one : ∀ k, spec_l2Good.l0 (k + 1) i s l = some false ∨ spec_l2Good.l0 (k + 1) i s l = spec_l2Good.l0 k (i + 1) s l := by
      intro k
      simp only [spec_l2Good.l0, l1In_eq, before_eq, hw, hw1, if_pos hp, if_pos hi, Option.bind_some, decide_eq_true_eq]
      repeat' split
      all_goals first | exact .inl rfl | exact .inr rfl | (exfalso; omega)
    obtain ⟨K, hK⟩ := hr
    refine ⟨K + 1, fun k hk => ?_⟩
    obtain ⟨k, rfl⟩ : ∃ m, k = m + 1 := ⟨k - 1, by omega⟩
    rcases one k with h | h
    · exact h
    · exact h.trans (hK k (by omega))
/-- A good graph: at most eight nodes, each edge from a lower node to a higher one. -/
def Good (s : Int) (l : List S71) : Prop := 0 ≤ s ∧ s ≤ 8 ∧ ∀ j : Int, 0 ≤ j → j < l.length → 0 ≤ (rd_T71 l j).f0 ∧ (rd_T71 l j).f0 < (rd_T71 l j).f1 ∧ (rd_T71 l j).f1 < s
/-- Its pairs stand in order. -/
def Sorted (l : List S71) : Prop := ∀ j : Int, 0 < j → j < l.length → (rd_T71 l (j - 1)).f0 < (rd_T71 l j).f0 ∨ ((rd_T71 l (j - 1)).f0 = (rd_T71 l j).f0 ∧ (rd_T71 l (j - 1)).f1 < (rd_T71 l j).f1)
theorem isGraph_full (s : Int) (l : List S71) (hlen : l.length ≤ 1048576) : ∃ b, (b = true → Good s l ∧ Sorted l) ∧ Ev (fun k => spec_l2Good.f k s l) b ∧ Ev (fun k => impl_IsGraph.f k s l) b := by
  by_cases h8 : 0 ≤ s ∧ s ≤ 8
  · obtain ⟨b, hg, hA, hB⟩ := good_both l s h8.1 h8.2 hlen l.length 0 (by omega) (by omega)
    refine ⟨b, fun h => ⟨⟨h8.1, h8.2, fun j h0 h1 => ⟨(hg h j h0 h1).1, (hg h j h0 h1).2.1, (hg h j h0 h1).2.2.1⟩⟩, fun j h0 h1 => (hg h j (by omega) h1).2.2.2 h0⟩, ?_, ?_⟩
    · obtain ⟨K, hK⟩ := hA
      dsimp only at hK
      exact ⟨K, fun k hk => by dsimp only; unfold spec_l2Good.f; exact hK k hk⟩
    · obtain ⟨K, hK⟩ := hB
      dsimp only at hK
      exact ⟨K, fun k hk => by dsimp only; unfold impl_IsGraph.f; rw [if_pos h8]; exact hK k hk⟩
  · refine ⟨false, fun h => (by cases h), ?_, ⟨0, fun k _ => by dsimp only; unfold impl_IsGraph.f; rw [if_neg h8]⟩⟩
    obtain ⟨K, hK⟩ := good_not l s h8 hlen l.length 0 (by omega) (by omega)
    dsimp only at hK
    exact ⟨K, fun k hk => by dsimp only; unfold spec_l2Good.f; exact hK k hk⟩
end Go.Proofs.Ytcjddikalgnhpaa.Gr
namespace Go.Proofs.Ytcjddikalgnhpaa.Gr
open Go.RowKit Go.Proofs.Ytcjddikalgnhpaa.P Go.Proofs.YtcjddikalgnhpaaW.PrintWords Go.Proofs.YtcjddikalgnhpaaW.PrintLast Go.Proofs.YtcjddikalgnhpaaW.PrintMore
/-- Is the edge u, v among the first d pairs from i on? -/
def nearF (l : List S71) (u v : Int) : Nat → Int → Bool
  | 0, _ => false
  | d + 1, i => ((rd_T71 l i).f0 == u && (rd_T71 l i).f1 == v) || ((rd_T71 l i).f0 == v && (rd_T71 l i).f1 == u) || nearF l u v d (i + 1)
def near (l : List S71) (u v : Int) : Bool := nearF l u v l.length 0
theorem near_loop (s : Int) (l : List S71) (u v : Int) (hl : l.length ≤ 1048576) : ∀ (d : Nat) (i : Int), 0 ≤ i → (l.length : Int) - i = d → Ev (fun k => spec_l2Near.l0 k u v i s l) (nearF l u v d i) := by
  intro d
  induction d with
  | zero =>
    intro i hi hd
    refine Ev.step (f := fun _ => some false) (fun k => ?_) (Ev.now false)
    simp only [spec_l2Near.l0]
    rw [if_neg (by omega)]
  | succ d ih =>
    intro i hi hd
    have hp : i < (l.length : Int) := by omega
    have hw : wrap64 (i + 1) = i + 1 := by unfold wrap64; omega
    have hr := ih (i + 1) (by omega) (by omega)
    by_cases hc : ((rd_T71 l i).f0 = u ∧ (rd_T71 l i).f1 = v) ∨ ((rd_T71 l i).f0 = v ∧ (rd_T71 l i).f1 = u)
    · have e : nearF l u v (d + 1) i = true := by
        unfold nearF
        rcases hc with ⟨h1, h2⟩ | ⟨h1, h2⟩ <;> simp [h1, h2]
      rw [e]
      refine Ev.step (f := fun _ => some true) (fun k => ?_) (Ev.now true)
      simp only [spec_l2Near.l0, if_pos hp, if_pos hi]
      repeat' split
      all_goals first | rfl | (exfalso; omega)
    · have e : nearF l u v (d + 1) i = nearF l u v d (i + 1) := by
        have h1 : ((rd_T71 l i).f0 == u && (rd_T71 l i).f1 == v) = false := by
          rw [Bool.and_eq_false_iff]
          by_cases h : (rd_T71 l i).f0 = u
          · right
            simp only [beq_eq_false_iff_ne]
            intro h'
            exact hc (.inl ⟨h, h'⟩)
          · left
            simpa using h
        have h2 : ((rd_T71 l i).f0 == v && (rd_T71 l i).f1 == u) = false := by
          rw [Bool.and_eq_false_iff]
          by_cases h : (rd_T71 l i).f0 = v
          · right
            simp only [beq_eq_false_iff_ne]
            intro h'
            exact hc (.inr ⟨h, h'⟩)
          · left
            simpa using h
        conv => lhs; unfold nearF
        rw [h1, h2]
        rfl
      rw [e]
      refine Ev.step (fun k => ?_) hr
      simp only [spec_l2Near.l0, if_pos hp, if_pos hi, hw]
      repeat' split
      all_goals first | rfl | (exfalso; omega)
theorem near_ev (s : Int) (l : List S71) (u v : Int) (hl : l.length ≤ 1048576) : Ev (fun k => spec_l2Near.f k s l u v) (near l u v) := by
  obtain ⟨K, hK⟩ := near_loop s l u v hl l.length 0 (by omega) (by omega)
  dsimp only at hK
  exact ⟨K, fun k hk => by dsimp only; unfold spec_l2Near.f; exact hK k hk⟩
/-- A node's bit in a mask. -/
def bit (m v : Int) : Bool := Go.bits .and .i64 (shr .i64 m v) 1 == 1
def put (m v : Int) : Int := Go.bits .or .i64 m (shl .i64 1 v)
theorem put_all : ((List.range 256).all fun m => (List.range 8).all fun w => (decide (0 ≤ put m w) && decide (put m w < 256)) && (List.range 8).all fun v => bit (put m w) v == (bit m v || v == w)) = true := by kernel_rfl
theorem zero_all : ((List.range 8).all fun v => bit 0 v == false) = true := by kernel_rfl
theorem put_ok (m w : Int) (h0 : 0 ≤ m) (h1 : m < 256) (h2 : 0 ≤ w) (h3 : w < 8) : 0 ≤ put m w ∧ put m w < 256 ∧ ∀ v : Int, 0 ≤ v → v < 8 → bit (put m w) v = (bit m v || v == w) := by
  have h := List.all_eq_true.1 put_all m.toNat (List.mem_range.2 (by omega))
  have h' := List.all_eq_true.1 h w.toNat (List.mem_range.2 (by omega))
  rw [Int.toNat_of_nonneg h0, Int.toNat_of_nonneg h2, Bool.and_eq_true, Bool.and_eq_true, decide_eq_true_eq, decide_eq_true_eq] at h'
  refine ⟨h'.1.1, h'.1.2, fun v hv0 hv1 => ?_⟩
  have h'' := List.all_eq_true.1 h'.2 v.toNat (List.mem_range.2 (by omega))
  rw [Int.toNat_of_nonneg hv0, beq_iff_eq] at h''
  rw [h'']
  congr 1
  rw [Bool.eq_iff_iff, beq_iff_eq, beq_iff_eq]
  omega
theorem bit_zero (v : Int) (h0 : 0 ≤ v) (h1 : v < 8) : bit 0 v = false := by
  have h := List.all_eq_true.1 zero_all v.toNat (List.mem_range.2 (by omega))
  rw [Int.toNat_of_nonneg h0, beq_iff_eq] at h
  exact h
theorem rd_set (m : List Int) (i j x : Int) (h0 : 0 ≤ i) (h1 : i < m.length) (h2 : 0 ≤ j) : rd (m.set i.toNat x) j = if i = j then x else rd m j := by
  unfold rd
  rw [List.getD_eq_getElem?_getD, List.getD_eq_getElem?_getD]
  by_cases h : i = j
  · subst h
    rw [List.getElem?_set_self (by omega), if_pos rfl]
    rfl
  · rw [List.getElem?_set_ne (by omega), if_neg h]
/-- Masks of n nodes. -/
def Masks (s : Int) (m : List Int) : Prop := (m.length : Int) = s ∧ ∀ u : Int, 0 ≤ u → u < s → 0 ≤ rd m u ∧ rd m u < 256
theorem net_loop (s : Int) (l : List S71) (hl : l.length ≤ 1048576) (hg : Good s l) : ∀ (d : Nat) (i : Int) (m : List Int), 0 ≤ i → (l.length : Int) - i = d → Masks s m →
    ∃ r, Masks s r ∧ (∀ u v : Int, 0 ≤ u → u < s → 0 ≤ v → v < 8 → bit (rd r u) v = (bit (rd m u) v || nearF l u v d i)) ∧ Ev (fun k => impl_netOf.l0 k l l.length i m) r := by
  intro d
  induction d with
  | zero =>
    intro i m hi hd hm
    refine ⟨m, hm, fun u v _ _ _ _ => by simp [nearF], Ev.step (f := fun _ => some m) (fun k => ?_) (Ev.now m)⟩
    simp only [impl_netOf.l0]
    rw [if_neg (by omega)]
  | succ d ih =>
    intro i m hi hd hm
    obtain ⟨hs0, hs8, hgood⟩ := hg
    obtain ⟨g0, g1, g2⟩ := hgood i hi (by omega)
    have hw : wrap64 (i + 1) = i + 1 := by unfold wrap64; omega
    have hlen := hm.1
    obtain ⟨a, ha⟩ : ∃ a, a = (rd_T71 l i).f0 := ⟨_, rfl⟩
    obtain ⟨b, hb⟩ : ∃ b, b = (rd_T71 l i).f1 := ⟨_, rfl⟩
    rw [← ha] at g0 g1
    rw [← hb] at g1 g2
    obtain ⟨pa0, pa1, pa⟩ := put_ok (rd m a) b (hm.2 a g0 (by omega)).1 (hm.2 a g0 (by omega)).2 (by omega) (by omega)
    obtain ⟨pb0, pb1, pb⟩ := put_ok (rd m b) a (hm.2 b (by omega) g2).1 (hm.2 b (by omega) g2).2 g0 (by omega)
    obtain ⟨m1, hm1⟩ : ∃ m1, m1 = m.set a.toNat (put (rd m a) b) := ⟨_, rfl⟩
    obtain ⟨m2, hm2⟩ : ∃ m2, m2 = m1.set b.toNat (put (rd m1 b) a) := ⟨_, rfl⟩
    have l1 : m1.length = m.length := by rw [hm1, List.length_set]
    have l2 : m2.length = m.length := by rw [hm2, List.length_set, l1]
    have r1 : ∀ u : Int, 0 ≤ u → rd m1 u = if a = u then put (rd m a) b else rd m u := fun u hu => by rw [hm1]; exact rd_set m a u _ g0 (by omega) hu
    have r1b : rd m1 b = rd m b := by rw [r1 b (by omega), if_neg (by omega)]
    have r2 : ∀ u : Int, 0 ≤ u → rd m2 u = if b = u then put (rd m b) a else if a = u then put (rd m a) b else rd m u := fun u hu => by
      rw [hm2, rd_set m1 b u _ (by omega) (by omega) hu, r1b]
      by_cases h : b = u
      · rw [if_pos h, if_pos h]
      · rw [if_neg h, if_neg h, r1 u hu]
    have hm' : Masks s m2 := by
      refine ⟨by rw [l2]; exact hm.1, fun u hu0 hu1 => ?_⟩
      rw [r2 u hu0]
      by_cases h : b = u
      · rw [if_pos h]; exact ⟨pb0, pb1⟩
      · rw [if_neg h]
        by_cases h' : a = u
        · rw [if_pos h']; exact ⟨pa0, pa1⟩
        · rw [if_neg h']; exact hm.2 u hu0 hu1
    obtain ⟨r, hr, hbit, hev⟩ := ih (i + 1) m2 (by omega) (by omega) hm'
    refine ⟨r, hr, fun u v hu0 hu1 hv0 hv1 => ?_, Ev.step (fun k => ?_) hev⟩
    · rw [hbit u v hu0 hu1 hv0 hv1, r2 u hu0]
      conv => rhs; unfold nearF
      rw [← ha, ← hb]
      by_cases h : b = u
      · subst h
        rw [if_pos rfl, pb v hv0 hv1]
        have e1 : (a == b) = false := by simp; omega
        have e2 : (v == a) = (a == v) := by rw [Bool.eq_iff_iff]; simp; omega
        have e3 : (b == b) = true := by simp
        rw [e1, e2, e3]
        cases bit (rd m b) v <;> cases (a == v) <;> simp
      · rw [if_neg h]
        have e0 : (b == u) = false := by simpa using h
        by_cases h' : a = u
        · subst h'
          rw [if_pos rfl, pa v hv0 hv1]
          have e2 : (v == b) = (b == v) := by rw [Bool.eq_iff_iff]; simp; omega
          have e3 : (a == a) = true := by simp
          rw [e0, e2, e3]
          cases bit (rd m a) v <;> cases (b == v) <;> simp
        · rw [if_neg h']
          have e1 : (a == u) = false := by simpa using h'
          rw [e0, e1]
          simp
    · simp only [impl_netOf.l0, Option.bind_some]
      rw [← ha, ← hb]
      rw [if_pos (by omega), if_pos hi, if_pos (by omega), if_pos g0, if_pos (by omega), if_pos (by omega), if_pos (by omega), hw]
      show impl_netOf.l0 k l l.length (i + 1) ((m.set a.toNat (put (rd m a) b)).set b.toNat (put (rd (m.set a.toNat (put (rd m a) b)) b) a)) = _
      rw [← hm1, ← hm2]
theorem net_ev (s : Int) (l : List S71) (hl : l.length ≤ 1048576) (hg : Good s l) : ∃ r, Masks s r ∧ (∀ u v : Int, 0 ≤ u → u < s → 0 ≤ v → v < 8 → bit (rd r u) v = near l u v) ∧ Ev (fun k => impl_netOf.f k s l) r := by
  have hg' := hg
  obtain ⟨h0, h8, _⟩ := hg'
  have hz : Masks s (List.replicate s.toNat 0) := by
    refine ⟨by simp; omega, fun u hu0 hu1 => ?_⟩
    have : rd (List.replicate s.toNat 0) u = 0 := by
      unfold rd
      rw [List.getD_eq_getElem?_getD, List.getElem?_replicate, if_pos (by omega)]
      rfl
    rw [this]
    omega
  obtain ⟨r, hr, hb, K, hK⟩ := net_loop s l hl hg l.length 0 _ (by omega) (by omega) hz
  dsimp only at hK
  refine ⟨r, hr, fun u v hu0 hu1 hv0 hv1 => ?_, K, fun k hk => ?_⟩
  · rw [hb u v hu0 hu1 hv0 hv1]
    have : rd (List.replicate s.toNat 0) u = 0 := by
      unfold rd
      rw [List.getD_eq_getElem?_getD, List.getElem?_replicate, if_pos (by omega)]
      rfl
    rw [this, bit_zero v hv0 hv1, Bool.false_or]
    rfl
  · dsimp only
    unfold impl_netOf.f
    rw [if_pos h0, if_pos (by omega)]
    exact hK k hk
theorem has_eq (s : Int) (m : List Int) (u v : Int) (hm : Masks s m) (hu0 : 0 ≤ u) (hu1 : u < s) (hv0 : 0 ≤ v) : impl_net_has.f m u v = some (bit (rd m u) v) := by
  unfold impl_net_has.f
  rw [if_pos hu0, if_pos (by rw [hm.1]; exact hu1), if_pos hv0]
  rfl
end Go.Proofs.Ytcjddikalgnhpaa.Gr
namespace Go.Proofs.Ytcjddikalgnhpaa.Gr
open Go.RowKit Go.Proofs.Ytcjddikalgnhpaa.P Go.Proofs.YtcjddikalgnhpaaW.PrintWords Go.Proofs.YtcjddikalgnhpaaW.PrintLast
/-- With rounds enough, g answers something of which Q holds. -/
def Cm {α : Type} (g : Nat → Option α) (Q : α → Prop) : Prop := ∃ r, Ev g r ∧ Q r
theorem Cm.of {α : Type} {g : Nat → Option α} {Q : α → Prop} {r : α} (h : Ev g r) (q : Q r) : Cm g Q := ⟨r, h, q⟩
theorem Cm.now {α : Type} {Q : α → Prop} {r : α} (q : Q r) : Cm (fun _ => some r) Q := ⟨r, Ev.now r, q⟩
theorem Cm.mono {α : Type} {g : Nat → Option α} {Q Q' : α → Prop} (h : Cm g Q) (k : ∀ r, Q r → Q' r) : Cm g Q' := by
  obtain ⟨r, h1, h2⟩ := h
  exact ⟨r, h1, k r h2⟩
theorem Cm.ev {α : Type} {g : Nat → Option α} {r : α} (h : Cm g (fun x => x = r)) : Ev g r := by
  obtain ⟨r', h1, rfl⟩ := h
  exact h1
theorem Cm.step {α : Type} {g f : Nat → Option α} {Q : α → Prop} (h : ∀ k, g (k + 1) = f k) (k : Cm f Q) : Cm g Q := by
  obtain ⟨r, h1, h2⟩ := k
  exact ⟨r, Ev.step h h1, h2⟩
theorem Cm.congr {α : Type} {g f : Nat → Option α} {Q : α → Prop} (h : ∀ k, g k = f k) (k : Cm f Q) : Cm g Q := by
  obtain ⟨r, h1, h2⟩ := k
  exact ⟨r, Ev.congr h h1, h2⟩
theorem Cm.pos {α : Type} {c : Prop} [Decidable c] {f g : Nat → Option α} {Q : α → Prop} (h : c) (k : Cm f Q) : Cm (fun n => if c then f n else g n) Q :=
  Cm.congr (fun _ => if_pos h) k
theorem Cm.neg {α : Type} {c : Prop} [Decidable c] {f g : Nat → Option α} {Q : α → Prop} (h : ¬ c) (k : Cm g Q) : Cm (fun n => if c then f n else g n) Q :=
  Cm.congr (fun _ => if_neg h) k
theorem Cm.ite {α : Type} {c : Prop} [Decidable c] {f g : Nat → Option α} {Q : α → Prop} (h : c → Cm f Q) (k : ¬ c → Cm g Q) : Cm (fun n => if c then f n else g n) Q := by
  by_cases hc : c
  · exact Cm.pos hc (h hc)
  · exact Cm.neg hc (k hc)
theorem Cm.bind {α β : Type} {f : Nat → Option α} {h : Nat → α → Option β} {P : α → Prop} {Q : β → Prop} (a : Cm f P) (k : ∀ x, P x → Cm (fun n => h n x) Q) : Cm (fun n => (f n).bind (h n)) Q := by
  obtain ⟨x, h1, h2⟩ := a
  obtain ⟨r, h3, h4⟩ := k x h2
  exact ⟨r, Ev.bind h1 h3, h4⟩
theorem Cm.bindE {α β : Type} {f : Nat → Option α} {h : Nat → α → Option β} {x : α} {Q : β → Prop} (a : Ev f x) (k : Cm (fun n => h n x) Q) : Cm (fun n => (f n).bind (h n)) Q := by
  obtain ⟨r, h3, h4⟩ := k
  exact ⟨r, Ev.bind a h3, h4⟩
/-- A loop: each state comes to Q if all states that are smaller do. -/
theorem Cm.meas {σ β : Type} (g : Nat → σ → Option β) (m : σ → Nat) (I : σ → Prop) (Q : σ → β → Prop)
    (hs : ∀ a, I a → (∀ b, I b → m b < m a → Cm (fun k => g k b) (Q b)) → Cm (fun k => g k a) (Q a)) : ∀ a, I a → Cm (fun k => g k a) (Q a) := by
  suffices h : ∀ n a, m a = n → I a → Cm (fun k => g k a) (Q a) from fun a ha => h _ a rfl ha
  intro n
  induction n using Nat.strongRecOn with
  | _ n ih =>
    intro a hn ha
    exact hs a ha (fun b hb hm => ih (m b) (by omega) b rfl hb)
/-- A loop that counts up to n. -/
theorem Cm.up {α β : Type} (g : Nat → Int → α → Option β) (n : Int) (I : Int → α → Prop) (Q : β → Prop)
    (hs : ∀ i a, i ≤ n → I i a → (∀ b, i < n → I (i + 1) b → Cm (fun k => g k (i + 1) b) Q) → Cm (fun k => g k i a) Q) (i : Int) (a : α) (hi : i ≤ n) (hI : I i a) : Cm (fun k => g k i a) Q := by
  obtain ⟨d, hd⟩ : ∃ d : Nat, n - i = d := ⟨(n - i).toNat, by omega⟩
  induction d generalizing i a with
  | zero => exact hs i a hi hI (fun b h _ => by omega)
  | succ d ih => exact hs i a hi hI (fun b h hb => ih (i + 1) b (by omega) hb (by omega))
theorem w64 (x : Int) (h1 : -9223372036854775808 ≤ x) (h2 : x ≤ 9223372036854775807) : wrap64 x = x := by
  unfold wrap64
  omega
end Go.Proofs.Ytcjddikalgnhpaa.Gr
namespace Go.Proofs.Ytcjddikalgnhpaa.Gr
open Go.RowKit Go.Proofs.Ytcjddikalgnhpaa.P Go.Proofs.YtcjddikalgnhpaaW.PrintWords Go.Proofs.YtcjddikalgnhpaaW.PrintLast Go.Proofs.YtcjddikalgnhpaaW.PrintMore
/-- Whether a product has an edge between two pairs of nodes. -/
def prodH (b : Bool) (l m : List S71) (n x y : Int) : Bool :=
  (decide (Int.tdiv x n = Int.tdiv y n) && near m (Int.tmod x n) (Int.tmod y n)) || (near l (Int.tdiv x n) (Int.tdiv y n) && decide (Int.tmod x n = Int.tmod y n)) || (b && near l (Int.tdiv x n) (Int.tdiv y n) && near m (Int.tmod x n) (Int.tmod y n))
theorem prod_if {α : Type} (a c d e : Int) (t1 t2 b : Bool) (A B : α) :
    (if a = c then (if t2 = true then A else (if t1 = true then (if d = e then A else (if b = true then B else B)) else (if b = true then B else B))) else (if t1 = true then (if d = e then A else (if b = true then (if t2 = true then A else B) else B)) else (if b = true then B else B)))
      = if ((decide (a = c) && t2) || (t1 && decide (d = e)) || (b && t1 && t2)) = true then A else B := by
  by_cases h1 : a = c <;> by_cases h2 : d = e <;> cases t1 <;> cases t2 <;> cases b <;> simp [h1, h2]
theorem div_facts {s n x : Int} (hn : 0 < n) (hx : 0 ≤ x) (hxs : x < s * n) : 0 ≤ Int.tdiv x n ∧ Int.tdiv x n < s ∧ 0 ≤ Int.tmod x n ∧ Int.tmod x n < n ∧ x = n * Int.tdiv x n + Int.tmod x n := by
  rw [Int.tdiv_eq_ediv_of_nonneg hx, Int.tmod_eq_emod_of_nonneg hx]
  exact ⟨Int.ediv_nonneg hx (by omega), Int.ediv_lt_of_lt_mul hn hxs, Int.emod_nonneg _ (by omega), Int.emod_lt_of_pos _ hn, (Int.mul_ediv_add_emod x n).symm⟩
theorem size_facts {s t : Int} (h0 : 0 ≤ s) (h8 : s ≤ 8) (k0 : 0 ≤ t) (k8 : t ≤ 8) : 0 ≤ s * t ∧ s * t ≤ 64 ∧ wrap64 (s * t) = s * t := by
  have h1 : 0 ≤ s * t := Int.mul_nonneg h0 k0
  have h2 : s * t ≤ 8 * 8 := Int.mul_le_mul h8 k8 k0 (by decide)
  exact ⟨h1, by omega, w64 _ (by omega) (by omega)⟩
set_option maxRecDepth 10000 in
theorem prod_row (b : Bool) (s t : Int) (l m : List S71) (hl : l.length ≤ 1048576) (hm : m.length ≤ 1048576) (hg : Good s l) (hg2 : Good t m) (n : Int) (hn : n = s * t) (hn8 : n ≤ 1000) (x : Int) (rest : List S71) (hx0 : 0 ≤ x)
    (hnx : ∀ es : List S71, (es.length : Int) ≤ (x + 1) * 1000 → Cm (fun k => spec_l2Product.l0 k b (x + 1) s l t m n es) (fun z => z = (n, es ++ rest, true))) :
    ∀ (d : Nat) (y : Int) (es : List S71), x < y → n - y = d → (es.length : Int) ≤ x * 1000 + y → Cm (fun k => spec_l2Product.l1 k b x y s l t m n es) (fun z => z = (n, es ++ (rowF (prodH b l m t) x d y ++ rest), true)) := by
  intro d
  induction d with
  | zero =>
    intro y es hxy hd hes
    refine Cm.step (fun k => by simp (disch := omega) only [spec_l2Product.l1, if_neg (show ¬ y < n by omega), w64 (x + 1)]; try rfl) (hnx es (by omega))
  | succ d ih =>
    intro y es hxy hd hes
    have h := hg.1
    have h' := hg.2.1
    have k := hg2.1
    have k' := hg2.2.1
    have ht : 0 < t := by
      rcases Int.lt_or_eq_of_le k with c | c
      · exact c
      · rw [← c, Int.mul_zero] at hn
        omega
    obtain ⟨a0, a1, _⟩ := div_facts (s := s) ht hx0 (by omega)
    obtain ⟨b0, b1, _⟩ := div_facts (s := s) ht (show 0 ≤ y by omega) (by omega)
    have e1 := near_ev s l (wrap64 (Int.tdiv x t)) (wrap64 (Int.tdiv y t)) hl
    have e2 := near_ev t m (Int.tmod x t) (Int.tmod y t) hm
    rw [w64 (Int.tdiv x t) (by omega) (by omega), w64 (Int.tdiv y t) (by omega) (by omega)] at e1
    refine Cm.step (f := fun k => (spec_l2Near.f k s l (Int.tdiv x t) (Int.tdiv y t)).bind fun t1 => (spec_l2Near.f k t m (Int.tmod x t) (Int.tmod y t)).bind fun t2 =>
      if ((decide (Int.tdiv x t = Int.tdiv y t) && t2) || (t1 && decide (Int.tmod x t = Int.tmod y t)) || (b && t1 && t2)) = true then spec_l2Product.l1 k b x (y + 1) s l t m n (es ++ [⟨x, y⟩]) else spec_l2Product.l1 k b x (y + 1) s l t m n es) (fun k => ?_) ?_
    · simp only [spec_l2Product.l1, if_pos (show y < n by omega), if_neg (show ¬ t = 0 by omega), w64 (Int.tdiv x t) (by omega) (by omega), w64 (Int.tdiv y t) (by omega) (by omega), w64 (y + 1) (by omega) (by omega), if_pos (show es.length < 8796093022208 by omega)]
      congr 1
      funext t1
      congr 1
      funext t2
      exact prod_if _ _ _ _ t1 t2 b _ _
    · refine Cm.bindE e1 (Cm.bindE e2 ?_)
      refine Cm.ite (fun e => ?_) (fun e => ?_)
      · have hr := ih (y + 1) (es ++ [⟨x, y⟩]) (by omega) (by omega) (by rw [List.length_append, List.length_singleton]; omega)
        rw [show es ++ (rowF (prodH b l m t) x (d + 1) y ++ rest) = es ++ [⟨x, y⟩] ++ (rowF (prodH b l m t) x d (y + 1) ++ rest) by
          conv => lhs; unfold rowF
          rw [if_pos (show prodH b l m t x y = true from e)]
          simp]
        exact hr
      · have hr := ih (y + 1) es (by omega) (by omega) (by omega)
        rw [show es ++ (rowF (prodH b l m t) x (d + 1) y ++ rest) = es ++ (rowF (prodH b l m t) x d (y + 1) ++ rest) by
          conv => lhs; unfold rowF
          rw [if_neg (show ¬ prodH b l m t x y = true from e)]
          simp]
        exact hr
set_option maxRecDepth 10000 in
theorem prod_all (b : Bool) (s t : Int) (l m : List S71) (hl : l.length ≤ 1048576) (hm : m.length ≤ 1048576) (hg : Good s l) (hg2 : Good t m) (n : Int) (hn : n = s * t) (hn8 : n ≤ 1000) : ∀ (d : Nat) (x : Int) (es : List S71), 0 ≤ x → n - x = d → (es.length : Int) ≤ x * 1000 → Cm (fun k => spec_l2Product.l0 k b x s l t m n es) (fun z => z = (n, es ++ allF (prodH b l m t) d x, true)) := by
  intro d
  induction d with
  | zero =>
    intro x es hx hd hes
    rw [show allF (prodH b l m t) 0 x = [] from rfl, List.append_nil]
    exact Cm.step (fun k => by simp only [spec_l2Product.l0, if_neg (show ¬ x < n by omega)]; try rfl) (Cm.now rfl)
  | succ d ih =>
    intro x es hx hd hes
    have hr := prod_row b s t l m hl hm hg hg2 n hn hn8 x (allF (prodH b l m t) d (x + 1)) hx (fun es' he => ih (x + 1) es' (by omega) (by omega) he) d (x + 1) es (by omega) (by omega) (by omega)
    rw [show allF (prodH b l m t) (d + 1) x = rowF (prodH b l m t) x d (x + 1) ++ allF (prodH b l m t) d (x + 1) from rfl]
    exact Cm.step (fun k => by simp (disch := omega) only [spec_l2Product.l0, if_pos (show x < n by omega), w64 (x + 1)]; try rfl) hr
theorem has_near {s : Int} {l : List S71} {m : List Int} (hg : Good s l) (hm : Masks s m) (hb : ∀ u v : Int, 0 ≤ u → u < s → 0 ≤ v → v < 8 → bit (rd m u) v = near l u v) (u v : Int) (u0 : 0 ≤ u) (u1 : u < s) (v0 : 0 ≤ v) (v1 : v < s) : impl_net_has.f m u v = some (near l u v) := by
  rw [has_eq s m u v hm u0 u1 v0, hb u v u0 u1 v0 (by have := hg.2.1; omega)]
end Go.Proofs.Ytcjddikalgnhpaa.Gr
namespace Go.Proofs.Ytcjddikalgnhpaa.Gr
open Go.RowKit Go.Proofs.Ytcjddikalgnhpaa.P Go.Proofs.YtcjddikalgnhpaaW.PrintWords Go.Proofs.YtcjddikalgnhpaaW.PrintLast
/-- The numbers below n, in order. -/
def V (n : Int) : List Int := (List.range n.toNat).map Int.ofNat
theorem V_len (n : Int) : (V n).length = n.toNat := by unfold V; simp
theorem mem_V {n x : Int} : x ∈ V n ↔ 0 ≤ x ∧ x < n := by
  unfold V
  rw [List.mem_map]
  constructor
  · rintro ⟨a, h, rfl⟩
    have := List.mem_range.1 h
    have e : Int.ofNat a = (a : Int) := rfl
    omega
  · rintro ⟨h0, h1⟩
    exact ⟨x.toNat, List.mem_range.2 (by omega), Int.toNat_of_nonneg h0⟩
/-- Rising. -/
abbrev Up (l : List Int) : Prop := l.Pairwise (· < ·)
theorem V_up (n : Int) : Up (V n) := by
  unfold V Up
  rw [List.pairwise_map]
  exact List.Pairwise.imp (fun h => Int.ofNat_lt.2 h) List.pairwise_lt_range
theorem filter_up {l : List Int} (h : Up l) (p : Int → Bool) : Up (l.filter p) := List.Pairwise.filter p h
theorem up_ext : ∀ {a b : List Int}, Up a → Up b → (∀ x, x ∈ a ↔ x ∈ b) → a = b
  | [], [], _, _, _ => rfl
  | [], y :: b, _, _, h => by have := (h y).2 List.mem_cons_self; cases this
  | x :: a, [], _, _, h => by have := (h x).1 List.mem_cons_self; cases this
  | x :: a, y :: b, ha, hb, h => by
    have ha' := List.pairwise_cons.1 ha
    have hb' := List.pairwise_cons.1 hb
    have e : x = y := by
      rcases List.mem_cons.1 ((h x).1 List.mem_cons_self) with e | e
      · exact e
      · rcases List.mem_cons.1 ((h y).2 List.mem_cons_self) with e' | e'
        · exact e'.symm
        · have := hb'.1 x e
          have := ha'.1 y e'
          omega
    subst e
    congr 1
    refine up_ext ha'.2 hb'.2 (fun z => ⟨fun hz => ?_, fun hz => ?_⟩)
    · rcases List.mem_cons.1 ((h z).1 (List.mem_cons_of_mem _ hz)) with e | e
      · subst e; have := ha'.1 z hz; omega
      · exact e
    · rcases List.mem_cons.1 ((h z).2 (List.mem_cons_of_mem _ hz)) with e | e
      · subst e; have := hb'.1 z hz; omega
      · exact e
theorem mem_VF {n x : Int} {p : Int → Bool} : x ∈ (V n).filter p ↔ (0 ≤ x ∧ x < n) ∧ p x = true := by rw [List.mem_filter, mem_V]
theorem VF_len {n : Int} {p : Int → Bool} : ((V n).filter p).length ≤ n.toNat := by
  have := List.length_filter_le p (V n)
  rw [V_len] at this
  exact this
theorem up_nodup {l : List Int} (h : Up l) : l.Nodup := List.Pairwise.imp (fun h => by omega) h
theorem take_rd (l : List Int) (i : Int) (h0 : 0 ≤ i) (h1 : i < l.length) : l.take (i + 1).toNat = l.take i.toNat ++ [rd l i] := by
  rw [show (i + 1).toNat = i.toNat + 1 by omega, List.take_succ_eq_append_getElem (by omega)]
  congr 2
  unfold rd
  rw [List.getD_eq_getElem?_getD, List.getElem?_eq_getElem (by omega)]
  rfl
theorem rd_mem (l : List Int) (i : Int) (h0 : 0 ≤ i) (h1 : i < l.length) : rd l i ∈ l := by
  unfold rd
  rw [List.getD_eq_getElem?_getD, List.getElem?_eq_getElem (by omega)]
  exact List.getElem_mem _
theorem nodup_le : ∀ {a b : List Int}, a.Nodup → (∀ x ∈ a, x ∈ b) → a.length ≤ b.length
  | [], _, _, _ => by simp
  | y :: a, b, hn, hs => by
    have hn' := List.nodup_cons.1 hn
    have hy := hs y List.mem_cons_self
    have h1 : ∀ z ∈ a, z ∈ b.erase y := fun z hz => (List.mem_erase_of_ne (show z ≠ y from fun e' => hn'.1 (by rw [← e']; exact hz))).2 (hs z (List.mem_cons_of_mem _ hz))
    have h2 := nodup_le hn'.2 h1
    rw [List.length_erase_of_mem hy] at h2
    have h3 : 0 < b.length := List.length_pos_of_mem hy
    rw [List.length_cons]
    omega
end Go.Proofs.Ytcjddikalgnhpaa.Gr
namespace Go.Proofs.Ytcjddikalgnhpaa.Gr
open Go.RowKit Go.Proofs.Ytcjddikalgnhpaa.P Go.Proofs.YtcjddikalgnhpaaW.PrintWords Go.Proofs.YtcjddikalgnhpaaW.PrintLast Go.Proofs.YtcjddikalgnhpaaW.PrintMore
theorem wrap_small (n : Int) (h0 : 0 ≤ n) (h1 : n < 2 ^ 62) : IntKind.i64.wrap n = n := by
  exact (i64_w n).trans (w64 n (by omega) (by omega))
theorem bits_n (a b : Nat) (ha : a < 2 ^ 62) (hb : b < 2 ^ 62) : Go.bits .and .i64 a b = ((a &&& b : Nat) : Int) ∧ Go.bits .or .i64 a b = ((a ||| b : Nat) : Int) :=
  Go.bits_nat .i64 62 (by decide) (fun n h0 h1 => wrap_small n h0 (by exact_mod_cast h1)) a b ha hb
theorem bit_tb (m v : Nat) (hm : m < 2 ^ 62) (hv : v ≤ 64) : bit m v = m.testBit v := by
  unfold bit shr
  rw [show IntKind.i64.bits = 64 from rfl, Int.toNat_natCast, Nat.min_eq_left hv]
  have e : (m : Int) / 2 ^ v = ((m / 2 ^ v : Nat) : Int) := by norm_cast
  rw [e]
  have := (bits_n (m / 2 ^ v) 1 (Nat.lt_of_le_of_lt (Nat.div_le_self _ _) hm) (by decide)).1
  rw [show ((1 : Nat) : Int) = 1 from rfl] at this
  rw [this, Nat.and_one_is_mod, Nat.testBit_eq_decide_div_mod_eq]
  rw [Bool.eq_iff_iff, beq_iff_eq, decide_eq_true_eq]
  omega
theorem bit_i (m v : Int) (h0 : 0 ≤ m) (hm : m < 256) (v0 : 0 ≤ v) (hv : v < 64) : bit m v = m.toNat.testBit v.toNat := by
  have := bit_tb m.toNat v.toNat (by omega) (by omega)
  rwa [Int.toNat_of_nonneg h0, Int.toNat_of_nonneg v0] at this
/-- A mask of eight bits. -/
abbrev M8 (m : Int) : Prop := 0 ≤ m ∧ m < 256
theorem or_ok (a b : Int) (ha : M8 a) (hb : M8 b) : M8 (Go.bits .or .i64 a b) ∧ ∀ v : Int, 0 ≤ v → v < 64 → bit (Go.bits .or .i64 a b) v = (bit a v || bit b v) := by
  have e := (bits_n a.toNat b.toNat (by omega) (by omega)).2
  rw [Int.toNat_of_nonneg ha.1, Int.toNat_of_nonneg hb.1] at e
  have hM : M8 (Go.bits .or .i64 a b) := by
    rw [e]
    have : a.toNat ||| b.toNat < 2 ^ 8 := Nat.or_lt_two_pow (by omega) (by omega)
    constructor <;> omega
  refine ⟨hM, fun v v0 v1 => ?_⟩
  rw [bit_i _ v hM.1 hM.2 v0 v1, bit_i a v ha.1 ha.2 v0 v1, bit_i b v hb.1 hb.2 v0 v1, e, Int.toNat_natCast, Nat.testBit_or]
theorem one_all : ((List.range 8).all fun v => (decide (0 ≤ shl .i64 1 v) && decide (shl .i64 1 v < 256)) && (List.range 64).all fun u => bit (shl .i64 1 v) u == (u == v)) = true := by kernel_rfl
theorem one_ok (v : Int) (h0 : 0 ≤ v) (h1 : v < 8) : M8 (shl .i64 1 v) ∧ ∀ u : Int, 0 ≤ u → u < 64 → bit (shl .i64 1 v) u = (u == v) := by
  have h := List.all_eq_true.1 one_all v.toNat (List.mem_range.2 (by omega))
  rw [Int.toNat_of_nonneg h0, Bool.and_eq_true, Bool.and_eq_true, decide_eq_true_eq, decide_eq_true_eq] at h
  refine ⟨h.1, fun u u0 u1 => ?_⟩
  have h' := List.all_eq_true.1 h.2 u.toNat (List.mem_range.2 (by omega))
  rw [Int.toNat_of_nonneg u0, beq_iff_eq] at h'
  rw [h', Bool.eq_iff_iff, beq_iff_eq, beq_iff_eq]
  omega
theorem set8_all : ((List.range 256).all fun m => impl_setOf.f 20 m == some ((V 8).filter (bit m))) = true := by kernel_rfl
/-- The nodes of a mask, in order. -/
theorem set8_ev (m : Int) (h : M8 m) : Ev (fun k => impl_setOf.f k m) ((V 8).filter (bit m)) := by
  have h' := List.all_eq_true.1 set8_all m.toNat (List.mem_range.2 (by omega))
  rw [Int.toNat_of_nonneg h.1, beq_iff_eq] at h'
  exact Ev.of (fun k => impl_setOf.mono m k) h'
theorem setP_ev (m : Int) (h : M8 m) (s : Int) (h8 : s ≤ 8) (p : Int → Bool) (hp : ∀ v : Int, 0 ≤ v → v < 8 → bit m v = (decide (v < s) && p v)) : Ev (fun k => impl_setOf.f k m) ((V s).filter p) := by
  have e : (V 8).filter (bit m) = (V s).filter p := by
    refine up_ext (filter_up (V_up _) _) (filter_up (V_up _) _) (fun x => ?_)
    rw [mem_VF, mem_VF]
    constructor
    · rintro ⟨⟨h0, h1⟩, h2⟩
      rw [hp x h0 h1, Bool.and_eq_true, decide_eq_true_eq] at h2
      exact ⟨⟨h0, h2.1⟩, h2.2⟩
    · rintro ⟨⟨h0, h1⟩, h2⟩
      exact ⟨⟨h0, by omega⟩, by rw [hp x h0 (by omega), h2, decide_eq_true h1]; rfl⟩
  rw [← e]
  exact set8_ev m h
theorem rdT_eq (l : List S71) (i : Nat) (h : i < l.length) : rd_T71 l i = l[i] := by
  unfold rd_T71
  rw [List.getD_eq_getElem?_getD, Int.toNat_natCast, List.getElem?_eq_getElem h]
  rfl
theorem rdT_mem (l : List S71) (i : Int) (h0 : 0 ≤ i) (h1 : i < l.length) : rd_T71 l i ∈ l := by
  have := rdT_eq l i.toNat (by omega)
  rw [Int.toNat_of_nonneg h0] at this
  rw [this]
  exact List.getElem_mem _
theorem mem_rdT {l : List S71} {x : S71} (h : x ∈ l) : ∃ i : Int, 0 ≤ i ∧ i < l.length ∧ rd_T71 l i = x := by
  obtain ⟨j, hj, rfl⟩ := List.mem_iff_getElem.1 h
  exact ⟨j, by omega, by omega, rdT_eq l j hj⟩
def ltP (a b : S71) : Prop := a.f0 < b.f0 ∨ (a.f0 = b.f0 ∧ a.f1 < b.f1)
abbrev Up2 (l : List S71) : Prop := l.Pairwise ltP
theorem ltP_irr {a : S71} (h : ltP a a) : False := by unfold ltP at h; omega
theorem ltP_trans {a b c : S71} (h : ltP a b) (k : ltP b c) : ltP a c := by unfold ltP at *; omega
theorem ltP_asymm {a b : S71} (h : ltP a b) (k : ltP b a) : False := ltP_irr (ltP_trans h k)
theorem up2_ext : ∀ {a b : List S71}, Up2 a → Up2 b → (∀ x, x ∈ a ↔ x ∈ b) → a = b
  | [], [], _, _, _ => rfl
  | [], y :: b, _, _, h => by have := (h y).2 List.mem_cons_self; cases this
  | x :: a, [], _, _, h => by have := (h x).1 List.mem_cons_self; cases this
  | x :: a, y :: b, ha, hb, h => by
    have ha' := List.pairwise_cons.1 ha
    have hb' := List.pairwise_cons.1 hb
    have e : x = y := by
      rcases List.mem_cons.1 ((h x).1 List.mem_cons_self) with e | e
      · exact e
      · rcases List.mem_cons.1 ((h y).2 List.mem_cons_self) with e' | e'
        · exact e'.symm
        · exact (ltP_asymm (hb'.1 x e) (ha'.1 y e')).elim
    subst e
    congr 1
    refine up2_ext ha'.2 hb'.2 (fun z => ⟨fun hz => ?_, fun hz => ?_⟩)
    · rcases List.mem_cons.1 ((h z).1 (List.mem_cons_of_mem _ hz)) with e | e
      · subst e; exact (ltP_irr (ha'.1 z hz)).elim
      · exact e
    · rcases List.mem_cons.1 ((h z).2 (List.mem_cons_of_mem _ hz)) with e | e
      · subst e; exact (ltP_irr (hb'.1 z hz)).elim
      · exact e
theorem sorted_up2 {l : List S71} (h : Sorted l) : Up2 l := by
  have key : ∀ (d : Nat) (i : Int), 0 ≤ i → i + (d : Int) + 1 < l.length → ltP (rd_T71 l i) (rd_T71 l (i + d + 1)) := by
    intro d
    induction d with
    | zero =>
      intro i h0 h1
      have := h (i + 1) (by omega) (by omega)
      rw [show i + 1 - 1 = i by omega] at this
      rw [show i + ((0 : Nat) : Int) + 1 = i + 1 by omega]
      exact this
    | succ d ih =>
      intro i h0 h1
      have a := ih i h0 (by omega)
      have b := h (i + (d : Int) + 1 + 1) (by omega) (by omega)
      rw [show i + (d : Int) + 1 + 1 - 1 = i + d + 1 by omega] at b
      rw [show i + ((d + 1 : Nat) : Int) + 1 = i + (d : Int) + 1 + 1 by omega]
      exact ltP_trans a b
  refine List.pairwise_iff_getElem.2 (fun i j hi hj hij => ?_)
  have := key (j - i - 1) i (by omega) (by omega)
  rw [show (i : Int) + ((j - i - 1 : Nat) : Int) + 1 = (j : Int) by omega] at this
  rw [← rdT_eq l i hi, ← rdT_eq l j hj]
  exact this
theorem good_mem {s : Int} {l : List S71} (h : Good s l) {e : S71} (he : e ∈ l) : 0 ≤ e.f0 ∧ e.f0 < e.f1 ∧ e.f1 < s := by
  obtain ⟨i, h0, h1, rfl⟩ := mem_rdT he
  exact h.2.2 i h0 h1
theorem nearF_iff (l : List S71) (u v : Int) : ∀ (d : Nat) (i : Int), 0 ≤ i → (l.length : Int) - i = d → (nearF l u v d i = true ↔ ∃ j : Int, i ≤ j ∧ j < l.length ∧ (rd_T71 l j = ⟨u, v⟩ ∨ rd_T71 l j = ⟨v, u⟩)) := by
  intro d
  induction d with
  | zero =>
    intro i h0 hd
    constructor
    · intro h; cases h
    · rintro ⟨j, h1, h2, _⟩; omega
  | succ d ih =>
    intro i h0 hd
    unfold nearF
    rw [Bool.or_eq_true, Bool.or_eq_true, ih (i + 1) (by omega) (by omega), Bool.and_eq_true, Bool.and_eq_true, beq_iff_eq, beq_iff_eq, beq_iff_eq, beq_iff_eq]
    have ex : ∀ a b : Int, (rd_T71 l i).f0 = a ∧ (rd_T71 l i).f1 = b ↔ rd_T71 l i = ⟨a, b⟩ := fun a b => ⟨fun ⟨h1, h2⟩ => by rw [← h1, ← h2], fun h => by rw [h]; exact ⟨rfl, rfl⟩⟩
    rw [ex, ex]
    constructor
    · rintro ((h | h) | ⟨j, h1, h2, h3⟩)
      · exact ⟨i, by omega, by omega, .inl h⟩
      · exact ⟨i, by omega, by omega, .inr h⟩
      · exact ⟨j, by omega, h2, h3⟩
    · rintro ⟨j, h1, h2, h3⟩
      by_cases e : j = i
      · subst e
        exact .inl h3
      · exact .inr ⟨j, by omega, h2, h3⟩
theorem near_iff (l : List S71) (u v : Int) : near l u v = true ↔ (⟨u, v⟩ : S71) ∈ l ∨ (⟨v, u⟩ : S71) ∈ l := by
  unfold near
  rw [nearF_iff l u v l.length 0 (by omega) (by omega)]
  constructor
  · rintro ⟨j, h1, h2, h3 | h3⟩
    · exact .inl (h3 ▸ rdT_mem l j h1 h2)
    · exact .inr (h3 ▸ rdT_mem l j h1 h2)
  · rintro (h | h)
    · obtain ⟨j, h0, h1, h2⟩ := mem_rdT h
      exact ⟨j, h0, h1, .inl h2⟩
    · obtain ⟨j, h0, h1, h2⟩ := mem_rdT h
      exact ⟨j, h0, h1, .inr h2⟩
theorem near_symm (l : List S71) (u v : Int) : near l u v = near l v u := by
  rw [Bool.eq_iff_iff, near_iff, near_iff]
  exact Or.comm
theorem near_in {s : Int} {l : List S71} (h : Good s l) {u v : Int} (hn : near l u v = true) : (0 ≤ u ∧ u < s) ∧ (0 ≤ v ∧ v < s) ∧ u ≠ v := by
  rcases (near_iff l u v).1 hn with e | e
  · have := good_mem h e
    dsimp only at this
    omega
  · have := good_mem h e
    dsimp only at this
    omega
theorem near_lt {s : Int} {l : List S71} (h : Good s l) {u v : Int} (huv : u < v) : near l u v = true ↔ (⟨u, v⟩ : S71) ∈ l := by
  rw [near_iff]
  refine ⟨fun k => k.elim id (fun e => ?_), .inl⟩
  have := good_mem h e
  dsimp only at this
  omega
theorem mem_rowF (h : Int → Int → Bool) (x : Int) (e : S71) : ∀ (d : Nat) (y : Int), e ∈ rowF h x d y ↔ e.f0 = x ∧ y ≤ e.f1 ∧ e.f1 < y + d ∧ h x e.f1 = true
  | 0, y => by
    constructor
    · intro h; cases h
    · rintro ⟨_, h1, h2, _⟩; omega
  | d + 1, y => by
    unfold rowF
    rw [List.mem_append, mem_rowF h x e d (y + 1)]
    constructor
    · rintro (hm | ⟨h0, h1, h2, h3⟩)
      · by_cases hc : h x y = true
        · rw [if_pos hc, List.mem_singleton] at hm
          subst hm
          exact ⟨rfl, by show y ≤ y; omega, by show y < y + _; omega, hc⟩
        · rw [if_neg hc] at hm; cases hm
      · exact ⟨h0, by omega, by omega, h3⟩
    · rintro ⟨h0, h1, h2, h3⟩
      by_cases hy : e.f1 = y
      · left
        rw [← hy, if_pos h3, List.mem_singleton, ← h0]
      · exact .inr ⟨h0, by omega, by omega, h3⟩
theorem rowF_up (h : Int → Int → Bool) (x : Int) : ∀ (d : Nat) (y : Int), Up2 (rowF h x d y)
  | 0, y => List.Pairwise.nil
  | d + 1, y => by
    unfold rowF
    refine List.pairwise_append.2 ⟨?_, rowF_up h x d (y + 1), fun a ha b hb => ?_⟩
    · split
      · exact List.pairwise_singleton _ _
      · exact List.Pairwise.nil
    · have hb' := (mem_rowF h x b d (y + 1)).1 hb
      by_cases hc : h x y = true
      · rw [if_pos hc, List.mem_singleton] at ha
        subst ha
        exact .inr ⟨hb'.1.symm, by show y < _; omega⟩
      · rw [if_neg hc] at ha; cases ha
theorem mem_allF (h : Int → Int → Bool) (e : S71) : ∀ (d : Nat) (x : Int), e ∈ allF h d x ↔ x ≤ e.f0 ∧ e.f0 < e.f1 ∧ e.f1 < x + d ∧ h e.f0 e.f1 = true
  | 0, x => by
    constructor
    · intro h; cases h
    · rintro ⟨h1, h2, h3, _⟩; omega
  | d + 1, x => by
    unfold allF
    rw [List.mem_append, mem_rowF, mem_allF h e d (x + 1)]
    constructor
    · rintro (⟨h0, h1, h2, h3⟩ | ⟨h0, h1, h2, h3⟩)
      · exact ⟨by omega, by omega, by omega, by rw [h0]; exact h3⟩
      · exact ⟨by omega, h1, by omega, h3⟩
    · rintro ⟨h0, h1, h2, h3⟩
      by_cases hx : e.f0 = x
      · exact .inl ⟨hx, by omega, by omega, by rw [← hx]; exact h3⟩
      · exact .inr ⟨by omega, h1, by omega, h3⟩
theorem allF_up (h : Int → Int → Bool) : ∀ (d : Nat) (x : Int), Up2 (allF h d x)
  | 0, x => List.Pairwise.nil
  | d + 1, x => by
    unfold allF
    refine List.pairwise_append.2 ⟨rowF_up h x d (x + 1), allF_up h d (x + 1), fun a ha b hb => ?_⟩
    have ha' := (mem_rowF h x a d (x + 1)).1 ha
    have hb' := (mem_allF h b d (x + 1)).1 hb
    exact .inl (by omega)
theorem mem_pairs {h : Int → Int → Bool} {n : Int} {e : S71} : e ∈ pairs h n ↔ 0 ≤ e.f0 ∧ e.f0 < e.f1 ∧ e.f1 < n ∧ h e.f0 e.f1 = true := by
  unfold pairs
  rw [mem_allF]
  constructor
  · rintro ⟨h0, h1, h2, h3⟩
    exact ⟨h0, h1, by omega, h3⟩
  · rintro ⟨h0, h1, h2, h3⟩
    exact ⟨h0, h1, by omega, h3⟩
theorem pairs_up (h : Int → Int → Bool) (n : Int) : Up2 (pairs h n) := allF_up h _ _
/-- A good graph's pairs are those that are near. -/
theorem good_pairs {s : Int} {l : List S71} (h : Good s l) (hs : Sorted l) : l = pairs (near l) s := by
  refine up2_ext (sorted_up2 hs) (pairs_up _ _) (fun e => ?_)
  rw [mem_pairs]
  constructor
  · intro he
    have := good_mem h he
    exact ⟨this.1, this.2.1, this.2.2, (near_iff l _ _).2 (.inl he)⟩
  · rintro ⟨h0, h1, h2, h3⟩
    exact (near_lt h h1).1 h3
/-- The masks of the net of a graph. -/
def Net (s : Int) (l : List S71) (m : List Int) : Prop := Masks s m ∧ ∀ u v : Int, 0 ≤ u → u < s → 0 ≤ v → v < 8 → bit (rd m u) v = near l u v
theorem around_cm (s : Int) (l : List S71) (h8 : s ≤ 8) (m : List Int) (hm : Net s l m) (q : Int) (hq : M8 q) : Cm (fun k => impl_net_around.f k m q) (fun a => M8 a ∧ ∀ v : Int, 0 ≤ v → v < 8 → (bit a v = true ↔ bit q v = true ∨ ∃ u : Int, (0 ≤ u ∧ u < s) ∧ bit q u = true ∧ near l u v = true)) := by
  unfold impl_net_around.f
  have hms := hm.1.1
  refine Cm.up (fun k i a => impl_net_around.l0 k q a m m.length i) m.length (fun i a => 0 ≤ i ∧ M8 a ∧ ∀ v : Int, 0 ≤ v → v < 8 → (bit a v = true ↔ bit q v = true ∨ ∃ u : Int, (0 ≤ u ∧ u < i) ∧ bit q u = true ∧ near l u v = true)) _ ?_ 0 q (by omega) ⟨by omega, hq, fun v _ _ => ⟨.inl, fun h => h.elim id (fun ⟨u, hu, _⟩ => by omega)⟩⟩
  rintro i a hi ⟨i0, hM, hb⟩ ih
  by_cases h : i < (m.length : Int)
  · by_cases e : Go.bits .and .i64 (shr .i64 q i) 1 = 1
    · have hbit : bit q i = true := by unfold bit; rw [e]; rfl
      have h1 := or_ok a (rd m i) hM (hm.1.2 i i0 (by omega))
      refine Cm.step (fun k => by simp (disch := omega) only [impl_net_around.l0, if_pos h, if_pos i0, if_pos e, w64 (i + 1)]; try rfl) (ih _ h ⟨by omega, h1.1, fun v v0 v1 => ?_⟩)
      rw [h1.2 v v0 (by omega), Bool.or_eq_true, hb v v0 v1, hm.2 i v i0 (by omega) v0 v1]
      constructor
      · rintro ((h2 | ⟨u, hu, h2⟩) | h2)
        · exact .inl h2
        · exact .inr ⟨u, by omega, h2⟩
        · exact .inr ⟨i, by omega, hbit, h2⟩
      · rintro (h2 | ⟨u, hu, h2, h3⟩)
        · exact .inl (.inl h2)
        · by_cases hui : u = i
          · rw [hui] at h3
            exact .inr h3
          · exact .inl (.inr ⟨u, by omega, h2, h3⟩)
    · have hbit : ¬ bit q i = true := by unfold bit; rw [beq_iff_eq]; exact e
      refine Cm.step (fun k => by simp (disch := omega) only [impl_net_around.l0, if_pos h, if_pos i0, if_neg e, w64 (i + 1)]; try rfl) (ih _ h ⟨by omega, hM, fun v v0 v1 => ?_⟩)
      rw [hb v v0 v1]
      constructor
      · rintro (h2 | ⟨u, hu, h2⟩)
        · exact .inl h2
        · exact .inr ⟨u, by omega, h2⟩
      · rintro (h2 | ⟨u, hu, h2, h3⟩)
        · exact .inl h2
        · by_cases hui : u = i
          · rw [hui] at h2
            exact (hbit h2).elim
          · exact .inr ⟨u, by omega, h2, h3⟩
  · refine Cm.step (fun k => by simp only [impl_net_around.l0, if_neg h]; try rfl) (Cm.now ⟨hM, fun v v0 v1 => ?_⟩)
    rw [hb v v0 v1, show i = s by omega]
/-- v is reached from x in n steps at most. -/
def Rch (l : List S71) (x : Int) : Nat → Int → Prop
  | 0, v => v = x
  | n + 1, v => Rch l x n v ∨ ∃ u, Rch l x n u ∧ near l u v = true
theorem rch_more {l : List S71} {x : Int} {n m : Nat} (h : n ≤ m) {v : Int} (hv : Rch l x n v) : Rch l x m v := by
  obtain ⟨d, rfl⟩ := Nat.le.dest h
  induction d with
  | zero => exact hv
  | succ d ih => exact .inl (ih (by omega))
theorem rch_in {s : Int} {l : List S71} (hG : Gr.Good s l) {x : Int} (hx : 0 ≤ x ∧ x < s) : ∀ (n : Nat) (v : Int), Rch l x n v → 0 ≤ v ∧ v < s
  | 0, v, h => by rw [show v = x from h]; exact hx
  | n + 1, v, h => h.elim (rch_in hG hx n v) (fun ⟨_, _, hn⟩ => (near_in hG hn).2.1)
theorem rch_stay {l : List S71} {x : Int} {n : Nat} (h : ∀ v, Rch l x (n + 1) v → Rch l x n v) : ∀ (m : Nat) (v : Int), n ≤ m → Rch l x m v → Rch l x n v := by
  intro m
  induction m with
  | zero => intro v hm hv; exact rch_more (by omega) hv
  | succ m ih =>
    intro v hm hv
    by_cases e : n = m + 1
    · rw [e]; exact hv
    · rcases hv with h1 | ⟨u, h1, h2⟩
      · exact ih v (by omega) h1
      · exact h v (.inr ⟨u, ih u (by omega) h1, h2⟩)
open Classical in
theorem rch_many {s : Int} {l : List S71} (hG : Gr.Good s l) (x : Int) (hx : 0 ≤ x ∧ x < s) : ∀ n : Nat, (∃ m, m ≤ n ∧ ∀ v, Rch l x (m + 1) v → Rch l x m v) ∨ n + 1 ≤ ((V s).filter (fun v => decide (Rch l x n v))).length
  | 0 => .inr (by
    have := List.length_pos_of_mem (mem_VF.2 ⟨hx, decide_eq_true (show Rch l x 0 x from rfl)⟩ : x ∈ (V s).filter (fun v => decide (Rch l x 0 v)))
    omega)
  | n + 1 => by
    rcases rch_many hG x hx n with ⟨m, hm, h⟩ | h
    · exact .inl ⟨m, by omega, h⟩
    · by_cases hs : ∃ v, Rch l x (n + 1) v ∧ ¬ Rch l x n v
      · obtain ⟨v, h1, h2⟩ := hs
        refine .inr ?_
        have hv := rch_in hG hx (n + 1) v h1
        have hle := nodup_le (a := v :: (V s).filter (fun v => decide (Rch l x n v))) (b := (V s).filter (fun v => decide (Rch l x (n + 1) v))) (List.nodup_cons.2 ⟨fun hh => h2 (of_decide_eq_true (mem_VF.1 hh).2), up_nodup (filter_up (V_up _) _)⟩) (fun y hy => by
          rcases List.mem_cons.1 hy with e | e
          · rw [e]; exact mem_VF.2 ⟨hv, decide_eq_true h1⟩
          · have := mem_VF.1 e
            exact mem_VF.2 ⟨this.1, decide_eq_true (.inl (of_decide_eq_true this.2))⟩)
        rw [List.length_cons] at hle
        omega
      · exact .inl ⟨n, by omega, fun v hv => Classical.byContradiction (fun hc => hs ⟨v, hv, hc⟩)⟩
theorem rch_all {s : Int} {l : List S71} (hG : Gr.Good s l) (x : Int) (hx : 0 ≤ x ∧ x < s) (n : Nat) (hn : s ≤ n) (v : Int) (h : Rch l x n v) : Rch l x s.toNat v := by
  rcases rch_many hG x hx s.toNat with ⟨m, hm, hs⟩ | hs
  · exact rch_more hm (rch_stay hs n v (by omega) h)
  · have := @VF_len s (fun v => @decide (Rch l x s.toNat v) (Classical.propDecidable _))
    omega
/-- The ball of the program: what is reached in r steps. -/
theorem ball_impl (s : Int) (l : List S71) (hG : Gr.Good s l) (m : List Int) (hm : Net s l m) (x : Int) (hx : 0 ≤ x ∧ x < s) (r : Int) (hr0 : 0 ≤ r) (hr : r ≤ 9223372036854775807) : Cm (fun k => impl_net_ball.f k m x r) (fun b => M8 b ∧ ∀ v : Int, 0 ≤ v → v < 8 → (bit b v = true ↔ Rch l x r.toNat v)) := by
  unfold impl_net_ball.f
  have h8 := hG.2.1
  have h1 := one_ok x hx.1 (by omega)
  refine Cm.pos hx.1 ?_
  refine Cm.meas (fun k (z : Int × Int) => impl_net_ball.l0 k z.1 z.2 m) (fun z => z.1.toNat) (fun z => 0 ≤ z.1 ∧ z.1 ≤ r ∧ M8 z.2 ∧ ∀ v : Int, 0 ≤ v → v < 8 → (bit z.2 v = true ↔ Rch l x (r - z.1).toNat v)) (fun _ b => M8 b ∧ ∀ v : Int, 0 ≤ v → v < 8 → (bit b v = true ↔ Rch l x r.toNat v)) ?_ (r, shl .i64 1 x) ⟨hr0, Int.le_refl _, h1.1, fun v v0 v1 => ?_⟩
  · rintro ⟨i, q⟩ ⟨i0, ir, hq, hb⟩ ih
    dsimp only at i0 ir hq hb
    by_cases h : i > 0
    · refine Cm.step (fun k => by simp (disch := omega) only [impl_net_ball.l0, if_pos h, w64 (i - 1)]; try rfl) (Cm.bind (around_cm s l h8 m hm q hq) ?_)
      rintro t ⟨ht, htb⟩
      have hstep : ∀ v : Int, 0 ≤ v → v < 8 → (bit t v = true ↔ Rch l x ((r - i).toNat + 1) v) := fun v v0 v1 => by
        rw [htb v v0 v1]
        constructor
        · rintro (h2 | ⟨u, hu, h2, h3⟩)
          · exact .inl ((hb v v0 v1).1 h2)
          · exact .inr ⟨u, (hb u hu.1 (by omega)).1 h2, h3⟩
        · rintro (h2 | ⟨u, h2, h3⟩)
          · exact .inl ((hb v v0 v1).2 h2)
          · have hu := rch_in hG hx _ u h2
            exact .inr ⟨u, hu, (hb u hu.1 (by omega)).2 h2, h3⟩
      refine Cm.ite (fun e => Cm.now ⟨hq, fun v v0 v1 => ?_⟩) (fun e => ih (i - 1, t) ⟨by dsimp only; omega, by dsimp only; omega, ht, fun v v0 v1 => ?_⟩ (by dsimp only; omega))
      · rw [hb v v0 v1]
        refine ⟨fun h2 => rch_more (by omega) h2, fun h2 => rch_stay (n := (r - i).toNat) (fun w hw => ?_) r.toNat v (by omega) h2⟩
        have hwn := rch_in hG hx _ w hw
        have := (hstep w hwn.1 (by omega)).2 hw
        rw [e] at this
        exact (hb w hwn.1 (by omega)).1 this
      · dsimp only
        rw [hstep v v0 v1, show (r - (i - 1)).toNat = (r - i).toNat + 1 by omega]
    · refine Cm.step (fun k => by simp only [impl_net_ball.l0, if_neg h]; try rfl) (Cm.now ⟨hq, fun v v0 v1 => ?_⟩)
      rw [hb v v0 v1, show r - i = r by omega]
  · dsimp only
    rw [h1.2 v v0 (by omega), beq_iff_eq, show (r - r).toNat = 0 by omega]
    exact Iff.rfl
/-- A row that tells the distances from x up to d; -1 where more is needed. -/
def Lev (s : Int) (l : List S71) (x d : Int) (row : List Int) : Prop := (row.length : Int) = s ∧ ∀ v : Int, 0 ≤ v → v < s → (rd row v = -1 ∨ (0 ≤ rd row v ∧ rd row v ≤ d)) ∧ ∀ n : Nat, (n : Int) ≤ d → ((0 ≤ rd row v ∧ rd row v ≤ n) ↔ Rch l x n v)
/-- The row on the way from d to d + 1. -/
def Mid (s : Int) (l : List S71) (d y z : Int) (row0 row : List Int) : Prop := (row.length : Int) = s ∧ ∀ v : Int, 0 ≤ v → v < s → (0 ≤ rd row0 v → rd row v = rd row0 v) ∧ (rd row0 v = -1 → (rd row v = d + 1 ∧ ∃ u, (0 ≤ u ∧ u < s) ∧ rd row0 u = d ∧ near l u v = true) ∨ (rd row v = -1 ∧ ∀ u : Int, 0 ≤ u → (u < y ∨ (u = y ∧ v < z)) → rd row0 u = d → near l u v = false))
theorem mid_next {s : Int} {l : List S71} {d y z : Int} {row0 row : List Int} (h : Mid s l d y z row0 row) (hz : rd row0 z = -1 → rd row z = -1 → rd row0 y = d → near l y z = false) : Mid s l d y (z + 1) row0 row := by
  refine ⟨h.1, fun v v0 v1 => ⟨(h.2 v v0 v1).1, fun e => ?_⟩⟩
  rcases (h.2 v v0 v1).2 e with h1 | ⟨h1, h2⟩
  · exact .inl h1
  · refine .inr ⟨h1, fun u u0 hu hd => ?_⟩
    by_cases hvz : u = y ∧ v = z
    · obtain ⟨rfl, rfl⟩ := hvz
      exact hz e h1 hd
    · exact h2 u u0 (by omega) hd
theorem lev_next {s : Int} {l : List S71} (hG : Gr.Good s l) {x d : Int} (hx : 0 ≤ x ∧ x < s) (d0 : 0 ≤ d) {row0 row : List Int} (h : Lev s l x d row0) (hm : Mid s l d s 0 row0 row) : Lev s l x (d + 1) row := by
  refine ⟨hm.1, fun v v0 v1 => ?_⟩
  obtain ⟨k0, kr⟩ := h.2 v v0 v1
  obtain ⟨m0, m1⟩ := hm.2 v v0 v1
  have hold : ∀ u : Int, 0 ≤ u → u < s → ∀ n : Nat, (n : Int) ≤ d → ((0 ≤ rd row0 u ∧ rd row0 u ≤ n) ↔ Rch l x n u) := fun u u0 u1 => (h.2 u u0 u1).2
  -- a near one at d
  have hnear : ∀ u : Int, 0 ≤ u → u < s → rd row0 u = d → near l u v = true → Rch l x (d.toNat + 1) v := fun u u0 u1 hd hn => .inr ⟨u, (hold u u0 u1 d.toNat (by omega)).1 ⟨by omega, by omega⟩, hn⟩
  have hback : rd row0 v = -1 → Rch l x (d.toNat + 1) v → ∃ u, (0 ≤ u ∧ u < s) ∧ rd row0 u = d ∧ near l u v = true := fun e hr => by
    rcases hr with hr | ⟨u, hu, hn⟩
    · have := (kr d.toNat (by omega)).2 hr
      omega
    · have hun := rch_in hG hx _ u hu
      have h1 := (hold u hun.1 hun.2 d.toNat (by omega)).2 hu
      refine ⟨u, hun, ?_, hn⟩
      by_cases hlt : rd row0 u = d
      · exact hlt
      · exfalso
        have h2 : Rch l x ((rd row0 u).toNat + 1) v := .inr ⟨u, (hold u hun.1 hun.2 (rd row0 u).toNat (by omega)).1 ⟨h1.1, by omega⟩, hn⟩
        have := (kr ((rd row0 u).toNat + 1) (by omega)).2 h2
        omega
  refine ⟨?_, fun n hn => ?_⟩
  · rcases k0 with e | e
    · rcases m1 e with ⟨h1, _⟩ | ⟨h1, _⟩
      · exact .inr (by omega)
      · exact .inl h1
    · have := m0 e.1
      exact .inr (by omega)
  · by_cases hnd : (n : Int) ≤ d
    · rw [← kr n hnd]
      rcases k0 with e | e
      · rcases m1 e with ⟨h1, _⟩ | ⟨h1, _⟩ <;> (rw [h1, e]; try omega)
      · rw [m0 e.1]
    · have hn' : n = d.toNat + 1 := by omega
      subst hn'
      rcases k0 with e | e
      · rcases m1 e with ⟨h1, u, hu, hd, hn⟩ | ⟨h1, h2⟩
        · rw [h1]
          exact ⟨fun _ => hnear u hu.1 hu.2 hd hn, fun _ => by omega⟩
        · rw [h1]
          refine ⟨fun h3 => by omega, fun h3 => ?_⟩
          obtain ⟨u, hu, hd, hn⟩ := hback e h3
          rw [h2 u hu.1 (.inl hu.2) hd] at hn
          exact Bool.noConfusion hn
      · rw [m0 e.1]
        exact ⟨fun _ => .inl ((kr d.toNat (by omega)).1 ⟨e.1, by omega⟩), fun _ => by omega⟩
theorem dist_cm (s : Int) (l : List S71) (hl : l.length ≤ 1048576) (hG : Gr.Good s l) : Cm (fun k => spec_l2Dist.f k s l) (fun t => (t.length : Int) = s ∧ ∀ x : Int, 0 ≤ x → x < s → Lev s l x s (t.getD x.toNat [])) := by
  unfold spec_l2Dist.f
  have h8 := hG.2.1
  have h0 := hG.1
  refine Cm.up (fun k i a => spec_l2Dist.l0 k a i s l) s (fun i a => 0 ≤ i ∧ (a.length : Int) = i ∧ ∀ x : Int, 0 ≤ x → x < i → Lev s l x s (a.getD x.toNat [])) _ ?_ 0 [] h0 ⟨by omega, by simp, fun x a b => by omega⟩
  rintro i a hi ⟨i0, hal, ha⟩ ih
  by_cases h : i < s
  · refine Cm.step (fun k => by simp only [spec_l2Dist.l0, if_pos h]; try rfl) ?_
    refine Cm.up (fun k j b => spec_l2Dist.l1 k a i b j s l) s (fun j b => 0 ≤ j ∧ b = List.replicate j.toNat (-1)) _ ?_ 0 [] h0 ⟨by omega, rfl⟩
    rintro j b hj ⟨j0, rfl⟩ ihj
    by_cases hjs : j < s
    · refine Cm.step (fun k => by simp (disch := omega) only [spec_l2Dist.l1, if_pos hjs, w64 (j + 1)]; try rfl) (Cm.pos (by rw [List.length_replicate]; omega) (ihj _ hjs ⟨by omega, ?_⟩))
      rw [show (j + 1).toNat = j.toNat + 1 by omega, List.replicate_succ']
    · have hbl : ((List.replicate j.toNat (-1 : Int)).length : Int) = s := by rw [List.length_replicate]; omega
      have hrep : ∀ v : Int, 0 ≤ v → v < s → rd (List.replicate j.toNat (-1)) v = -1 := fun v v0 v1 => by
        unfold rd
        rw [List.getD_eq_getElem?_getD, List.getElem?_replicate, if_pos (by omega)]
        rfl
      refine Cm.step (fun k => by simp only [spec_l2Dist.l1, if_neg hjs]; try rfl) (Cm.pos i0 (Cm.pos (by omega) ?_))
      obtain ⟨b, hb⟩ : ∃ b, b = List.replicate j.toNat (-1 : Int) := ⟨_, rfl⟩
      rw [← hb] at hbl hrep ⊢
      clear hb ihj
      refine Cm.up (fun k d row => spec_l2Dist.l2 k a i row d s l) s (fun d row => 0 ≤ d ∧ Lev s l i d row) _ ?_ 0 _ h0 ⟨by omega, by rw [List.length_set]; exact hbl, fun v v0 v1 => ?_⟩
      · rintro d row0 hd ⟨d0, hlev⟩ ihd
        by_cases hds : d < s
        · refine Cm.step (fun k => by simp only [spec_l2Dist.l2, if_pos hds]; try rfl) ?_
          refine Cm.up (fun k y row => spec_l2Dist.l3 k a i row d y s l) s (fun y row => 0 ≤ y ∧ Mid s l d y 0 row0 row) _ ?_ 0 row0 h0 ⟨by omega, hlev.1, fun v v0 v1 => ⟨fun _ => rfl, fun e => .inr ⟨e, fun u u0 hu => by omega⟩⟩⟩
          rintro y row hy ⟨y0, hmid⟩ ihy
          by_cases hys : y < s
          · refine Cm.step (fun k => by simp only [spec_l2Dist.l3, if_pos hys]; try rfl) ?_
            refine Cm.up (fun k z row => spec_l2Dist.l4 k a i row d y z s l) s (fun z row => 0 ≤ z ∧ Mid s l d y z row0 row) _ ?_ 0 row h0 ⟨by omega, hmid⟩
            rintro z row hz ⟨z0, hmid⟩ ihz
            have hrl := hmid.1
            by_cases hzs : z < s
            · have hy2 := hmid.2 y y0 hys
              have hk := (hlev.2 y y0 hys).1
              have hkz := (hlev.2 z z0 hzs).1
              have hz2 := hmid.2 z z0 hzs
              have hyd : rd row y = d ↔ rd row0 y = d := by
                rcases hk with e | e
                · rcases hy2.2 e with ⟨h1, _⟩ | ⟨h1, _⟩ <;> (rw [h1, e]; try omega)
                · rw [hy2.1 e.1]
              refine Cm.step (fun k => by simp (disch := omega) only [spec_l2Dist.l4, if_pos hzs, if_pos y0, if_pos (show y < (row.length : Int) by omega), w64 (z + 1), w64 (d + 1)]; try rfl) ?_
              refine Cm.ite (fun e => Cm.pos z0 (Cm.pos (by omega) (Cm.ite (fun e2 => Cm.bindE (near_ev s l y z hl) (Cm.ite (fun e3 => ihz _ hzs ⟨by omega, ?_⟩) (fun e3 => ihz _ hzs ⟨by omega, mid_next hmid (fun _ _ _ => Bool.eq_false_iff.2 e3)⟩))) (fun e2 => ihz _ hzs ⟨by omega, mid_next hmid (fun _ h2 _ => by omega)⟩)))) (fun e => ihz _ hzs ⟨by omega, mid_next hmid (fun _ _ h3 => (e (hyd.2 h3)).elim)⟩)
              have hz0 : rd row0 z = -1 := by
                rcases hkz with h1 | h1
                · exact h1
                · have := hz2.1 h1.1
                  omega
              refine ⟨by rw [List.length_set]; exact hrl, fun v v0 v1 => ?_⟩
              rw [rd_set row z v _ z0 (by omega) v0]
              by_cases hvz : z = v
              · subst hvz
                rw [if_pos rfl]
                exact ⟨fun h1 => by omega, fun _ => .inl ⟨rfl, y, ⟨y0, hys⟩, hyd.1 e, e3⟩⟩
              · rw [if_neg hvz]
                refine ⟨(hmid.2 v v0 v1).1, fun h1 => ?_⟩
                rcases (hmid.2 v v0 v1).2 h1 with h2 | ⟨h2, h3⟩
                · exact .inl h2
                · exact .inr ⟨h2, fun u u0 hu hd => h3 u u0 (by omega) hd⟩
            · refine Cm.step (fun k => by simp (disch := omega) only [spec_l2Dist.l4, if_neg hzs, w64 (y + 1)]; try rfl) (ihy _ hys ⟨by omega, hmid.1, fun v v0 v1 => ⟨(hmid.2 v v0 v1).1, fun e => ?_⟩⟩)
              rcases (hmid.2 v v0 v1).2 e with h1 | ⟨h1, h2⟩
              · exact .inl h1
              · exact .inr ⟨h1, fun u u0 hu hd => h2 u u0 (by omega) hd⟩
          · have hsy : y = s := by omega
            rw [hsy] at hmid
            refine Cm.step (fun k => by simp (disch := omega) only [spec_l2Dist.l3, if_neg hys, w64 (d + 1)]; try rfl) (ihd _ hds ⟨by omega, lev_next hG ⟨i0, h⟩ d0 hlev hmid⟩)
        · refine Cm.step (fun k => by simp (disch := omega) only [spec_l2Dist.l2, if_neg hds, w64 (i + 1)]; try rfl) (Cm.pos (by omega) (ih _ h ⟨by omega, by rw [List.length_append, List.length_singleton]; omega, fun x x0 x1 => ?_⟩))
          rw [List.getD_eq_getElem?_getD]
          by_cases hxi : x < i
          · rw [List.getElem?_append_left (by omega), ← List.getD_eq_getElem?_getD]
            exact ha x x0 hxi
          · rw [List.getElem?_append_right (by omega), show x.toNat - a.length = 0 by omega, show x = i by omega]
            rw [show s = d by omega] at hlev ⊢
            exact hlev
      · rw [rd_set b i v _ i0 (by omega) v0]
        by_cases hv : i = v
        · rw [if_pos hv]
          refine ⟨.inr (by omega), fun n hn => ?_⟩
          have hn0 : n = 0 := by omega
          subst hn0
          exact ⟨fun _ => hv.symm, fun _ => by omega⟩
        · rw [if_neg hv, hrep v v0 v1]
          refine ⟨.inl rfl, fun n hn => ?_⟩
          have hn0 : n = 0 := by omega
          subst hn0
          exact ⟨fun h1 => by omega, fun h1 => (hv (show v = i from h1).symm).elim⟩
  · refine Cm.step (fun k => by simp only [spec_l2Dist.l0, if_neg h]; try rfl) (Cm.now ⟨by omega, fun x x0 x1 => ha x x0 (by omega)⟩)
theorem lev_ext {s : Int} {l : List S71} {x : Int} {a b : List Int} (ha : Lev s l x s a) (hb : Lev s l x s b) : a = b := by
  have h1 := ha.1
  have h2 := hb.1
  refine List.ext_getElem (by omega) (fun j j1 j2 => ?_)
  have ea : rd a (j : Int) = a[j] := by
    unfold rd
    rw [Int.toNat_natCast, List.getD_eq_getElem?_getD, List.getElem?_eq_getElem j1]
    rfl
  have eb : rd b (j : Int) = b[j] := by
    unfold rd
    rw [Int.toNat_natCast, List.getD_eq_getElem?_getD, List.getElem?_eq_getElem j2]
    rfl
  rw [← ea, ← eb]
  obtain ⟨p1, p2⟩ := ha.2 j (by omega) (by omega)
  obtain ⟨q1, q2⟩ := hb.2 j (by omega) (by omega)
  have hs : 0 ≤ s := by omega
  rcases p1 with e | e
  · rcases q1 with f | f
    · rw [e, f]
    · have := (p2 (rd b j).toNat (by omega)).2 ((q2 (rd b j).toNat (by omega)).1 (by omega))
      omega
  · have k1 := (q2 (rd a j).toNat (by omega)).2 ((p2 (rd a j).toNat (by omega)).1 (by omega))
    have k2 := (p2 (rd b j).toNat (by omega)).2 ((q2 (rd b j).toNat (by omega)).1 (by omega))
    omega
/-- A row that tells the distances from x that are more than r. -/
def Far (s : Int) (l : List S71) (x r : Int) (row : List Int) : Prop := (row.length : Int) = s ∧ ∀ v : Int, 0 ≤ v → v < s → (rd row v = -1 ∨ (r < rd row v ∧ rd row v ≤ s)) ∧ ∀ n : Nat, r < (n : Int) → (n : Int) ≤ s → ((0 ≤ rd row v ∧ rd row v ≤ n) ↔ Rch l x n v)
theorem far_lev {s : Int} {l : List S71} {x r : Int} {row : List Int} (h : Far s l x r row) (hr : r = -1) : Lev s l x s row := by
  refine ⟨h.1, fun v v0 v1 => ?_⟩
  obtain ⟨h1, h2⟩ := h.2 v v0 v1
  refine ⟨?_, fun n hn => h2 n (by omega) hn⟩
  rcases h1 with e | e
  · exact .inl e
  · exact .inr ⟨by omega, e.2⟩
theorem set_ln (s : Int) (h8 : s ≤ 8) (T : List (List Int)) (x r : Int) (hT : (T.length : Int) = s) (hx : 0 ≤ x ∧ x < s) (L : List Int) (hL : ∀ v ∈ L, 0 ≤ v ∧ v < s) (hLl : L.length ≤ 8) (row0 : List Int) (hrow : (row0.length : Int) = s) (m : List Int) (x12 : Int) (Q : List (List Int) → Prop)
    (hQ : ∀ row : List Int, (row.length : Int) = s → (∀ v : Int, 0 ≤ v → v < s → rd row v = if v ∈ L then r else rd row0 v) → Cm (fun k => impl_net_distances.l1 k (T.set x.toNat row) x (wrap64 (r - 1)) x12 x m) Q) :
    Cm (fun k => impl_net_distances.l2 k (T.set x.toNat row0) x r x12 x L (L.length : Int) 0 m) Q := by
  refine Cm.up (fun k i (A : List (List Int)) => impl_net_distances.l2 k A x r x12 x L (L.length : Int) i m) (L.length : Int) (fun i A => 0 ≤ i ∧ ∃ row : List Int, A = T.set x.toNat row ∧ (row.length : Int) = s ∧ ∀ v : Int, 0 ≤ v → v < s → rd row v = if v ∈ L.take i.toNat then r else rd row0 v) _ ?_ 0 _ (by omega) ⟨by omega, row0, rfl, hrow, fun v _ _ => by rw [if_neg (by simp)]⟩
  rintro i A hi ⟨i0, row, rfl, hrl, hrv⟩ ih
  by_cases hc : i < (L.length : Int)
  · have hat : rd_L7 (T.set x.toNat row) x = row := by
      unfold rd_L7
      rw [List.getD_eq_getElem?_getD, List.getElem?_set_self (by omega)]
      rfl
    have hu := hL (rd L i) (rd_mem L i i0 hc)
    have hlen : ((T.set x.toNat row).length : Int) = s := by rw [List.length_set]; exact hT
    have hss : (T.set x.toNat row).set x.toNat (row.set (rd L i).toNat r) = T.set x.toNat (row.set (rd L i).toNat r) := List.set_set _
    refine Cm.step (fun k => by simp (disch := omega) only [impl_net_distances.l2, if_pos hc, if_pos i0, hlen, if_pos hx.1, if_pos hx.2, hat, if_pos hu.1, hrl, if_pos hu.2, hss, w64 (i + 1)]; try rfl) (ih _ hc ⟨by omega, row.set (rd L i).toNat r, rfl, by rw [List.length_set]; exact hrl, fun v v0 v1 => ?_⟩)
    rw [rd_set row (rd L i) v _ hu.1 (by omega) v0, take_rd L i i0 hc, hrv v v0 v1]
    by_cases e : rd L i = v
    · rw [if_pos e, if_pos (List.mem_append.2 (.inr (List.mem_singleton.2 e.symm)))]
    · rw [if_neg e]
      by_cases h2 : v ∈ L.take i.toNat
      · rw [if_pos h2, if_pos (List.mem_append.2 (.inl h2))]
      · rw [if_neg h2, if_neg (fun h3 => (List.mem_append.1 h3).elim h2 (fun h4 => e (List.mem_singleton.1 h4).symm))]
  · refine Cm.step (fun k => by simp only [impl_net_distances.l2, if_neg hc]; try rfl) (hQ row hrl (fun v v0 v1 => ?_))
    rw [hrv v v0 v1, List.take_of_length_le (by omega)]
open Classical in
theorem row_ln (s : Int) (l : List S71) (hG : Gr.Good s l) (m : List Int) (hN : Net s l m) (T : List (List Int)) (x : Int) (hT : (T.length : Int) = s) (hx : 0 ≤ x ∧ x < s) (row0 : List Int) (h0 : Far s l x s row0) (x12 : Int) (Q : List (List Int) → Prop)
    (hQ : ∀ row : List Int, Lev s l x s row → Cm (fun k => impl_net_distances.l0 k (T.set x.toNat row) x12 (wrap64 (x + 1)) m) Q) :
    Cm (fun k => impl_net_distances.l1 k (T.set x.toNat row0) x s x12 x m) Q := by
  have h8 := hG.2.1
  refine Cm.meas (fun k (z : Int × List (List Int)) => impl_net_distances.l1 k z.2 x z.1 x12 x m) (fun z => (z.1 + 1).toNat) (fun z => -1 ≤ z.1 ∧ z.1 ≤ s ∧ ∃ row, z.2 = T.set x.toNat row ∧ Far s l x z.1 row) (fun _ => Q) ?_ (s, T.set x.toNat row0) ⟨by dsimp only; omega, Int.le_refl _, row0, rfl, h0⟩
  rintro ⟨r, A⟩ ⟨r0, r1, row, hA, hF⟩ ih
  dsimp only at r0 r1 hA hF
  subst hA
  by_cases hc : r ≥ 0
  · refine Cm.step (fun k => by simp only [impl_net_distances.l1, if_pos hc]; try rfl) (Cm.bind (ball_impl s l hG m hN x hx r hc (by omega)) ?_)
    rintro b ⟨hb, hbv⟩
    have hset := setP_ev b hb s h8 (fun v => decide (Rch l x r.toNat v)) (fun v v0 v1 => by
      rw [Bool.eq_iff_iff, Bool.and_eq_true, decide_eq_true_iff, decide_eq_true_iff, hbv v v0 v1]
      exact ⟨fun h => ⟨(rch_in hG hx _ v h).2, h⟩, fun h => h.2⟩)
    refine Cm.bindE hset ?_
    have hlen : ((V s).filter (fun v => decide (Rch l x r.toNat v))).length ≤ s.toNat := VF_len
    refine set_ln s h8 T x r hT hx _ (fun v hv => (mem_VF.1 hv).1) (by omega) row hF.1 m x12 Q (fun row2 h2 h3 => ?_)
    rw [w64 (r - 1) (by omega) (by omega)]
    refine ih (r - 1, T.set x.toNat row2) ⟨by dsimp only; omega, by dsimp only; omega, row2, rfl, h2, fun v v0 v1 => ?_⟩ (by dsimp only; omega)
    have hm : (v ∈ (V s).filter (fun v => decide (Rch l x r.toNat v))) ↔ Rch l x r.toNat v := by
      rw [mem_VF, decide_eq_true_iff]
      exact ⟨fun h => h.2, fun h => ⟨⟨v0, v1⟩, h⟩⟩
    have hv := h3 v v0 v1
    obtain ⟨f1, f2⟩ := hF.2 v v0 v1
    dsimp only
    by_cases hr : Rch l x r.toNat v
    · rw [if_pos (hm.2 hr)] at hv
      rw [hv]
      exact ⟨.inr ⟨by omega, r1⟩, fun n hn hs => ⟨fun _ => rch_more (by omega) hr, fun _ => ⟨hc, by omega⟩⟩⟩
    · rw [if_neg (fun h => hr (hm.1 h))] at hv
      rw [hv]
      refine ⟨?_, fun n hn hs => ?_⟩
      · rcases f1 with e | e
        · exact .inl e
        · exact .inr ⟨by omega, e.2⟩
      · by_cases hnr : (n : Int) = r
        · have hn2 : n = r.toNat := by omega
          rw [hn2]
          refine ⟨fun h => ?_, fun h => (hr h).elim⟩
          rcases f1 with e | e <;> omega
        · exact f2 n (by omega) hs
  · refine Cm.step (fun k => by simp only [impl_net_distances.l1, if_neg hc]; try rfl) (hQ row (far_lev hF (by omega)))
theorem dist_impl (s : Int) (l : List S71) (hG : Gr.Good s l) (m : List Int) (hN : Net s l m) : Cm (fun k => impl_net_distances.f k m) (fun t => (t.length : Int) = s ∧ ∀ x : Int, 0 ≤ x → x < s → Lev s l x s (t.getD x.toNat [])) := by
  have h8 := hG.2.1
  have h0 := hG.1
  have hml : (m.length : Int) = s := hN.1.1
  unfold impl_net_distances.f impl_net_size.f
  rw [hml]
  simp only [Option.bind_some]
  refine Cm.pos h0 (Cm.pos (by omega) ?_)
  have hrl : (((List.replicate s.toNat ([] : List Int)).length : Nat) : Int) = s := by rw [List.length_replicate, Int.toNat_of_nonneg h0]
  rw [hrl]
  refine Cm.up (fun k i (T : List (List Int)) => impl_net_distances.l0 k T s i m) s (fun i T => 0 ≤ i ∧ (T.length : Int) = s ∧ ∀ x : Int, 0 ≤ x → x < i → Lev s l x s (T.getD x.toNat [])) _ ?_ 0 _ h0 ⟨by omega, hrl, fun x a b => by omega⟩
  rintro i T hi ⟨i0, hT, hv⟩ ih
  by_cases hc : i < s
  · have hrep : slices_Repeat_int_int.f ([-1] : List Int) s = some (List.replicate s.toNat (-1 : Int)) := by
      unfold slices_Repeat_int_int.f
      rw [if_pos ⟨rfl, h0, h8⟩]
      rfl
    have hsz : impl_net_size.f m = some s := by unfold impl_net_size.f; rw [hml]
    refine Cm.step (fun k => by simp (disch := omega) only [impl_net_distances.l0, if_pos hc, hrep, hsz, Option.bind_some, if_pos i0, hT]; try rfl) ?_
    have hreps : ∀ v : Int, 0 ≤ v → v < s → rd (List.replicate s.toNat (-1)) v = -1 := fun v v0 v1 => by
      unfold rd
      rw [List.getD_eq_getElem?_getD, List.getElem?_replicate, if_pos (by omega)]
      rfl
    refine row_ln s l hG m hN T i hT ⟨i0, hc⟩ _ ⟨by rw [List.length_replicate]; omega, fun v v0 v1 => ⟨.inl (hreps v v0 v1), fun n h1 h2 => by omega⟩⟩ s _ (fun row hrow => ?_)
    rw [w64 (i + 1) (by omega) (by omega)]
    refine ih _ hc ⟨by omega, by rw [List.length_set]; exact hT, fun x x0 x1 => ?_⟩
    rw [List.getD_eq_getElem?_getD]
    by_cases e : x = i
    · rw [e, List.getElem?_set_self (by omega)]
      exact hrow
    · rw [List.getElem?_set_ne (by omega), ← List.getD_eq_getElem?_getD]
      exact hv x x0 (by omega)
  · refine Cm.step (fun k => by simp only [impl_net_distances.l0, if_neg hc]; try rfl) (Cm.now ⟨hT, fun x x0 x1 => hv x x0 (by omega)⟩)
/-- Both come to one table of distances. -/
theorem dist_both (s : Int) (l : List S71) (hl : l.length ≤ 1048576) (hG : Gr.Good s l) (m : List Int) (hN : Net s l m) : ∃ t : List (List Int), ((t.length : Int) = s ∧ ∀ x : Int, 0 ≤ x → x < s → Lev s l x s (t.getD x.toNat [])) ∧ Ev (fun k => spec_l2Dist.f k s l) t ∧ Ev (fun k => impl_net_distances.f k m) t := by
  obtain ⟨t, e1, h1⟩ := dist_cm s l hl hG
  obtain ⟨u, e2, h2⟩ := dist_impl s l hG m hN
  have e : t = u := by
    refine List.ext_getElem (by have := h1.1; have := h2.1; omega) (fun j j1 j2 => ?_)
    have k1 := h1.2 j (by omega) (by have := h1.1; omega)
    have k2 := h2.2 j (by omega) (by have := h1.1; omega)
    rw [Int.toNat_natCast, List.getD_eq_getElem?_getD, List.getElem?_eq_getElem j1] at k1
    rw [Int.toNat_natCast, List.getD_eq_getElem?_getD, List.getElem?_eq_getElem j2] at k2
    exact lev_ext k1 k2
  subst e
  exact ⟨t, h1, e1, e2⟩
theorem rch_sum {l : List S71} {x y : Int} {m : Nat} (h : Rch l x m y) : ∀ (n : Nat) (z : Int), Rch l y n z → Rch l x (m + n) z
  | 0, z, hz => by rw [show z = y from hz]; exact h
  | n + 1, z, hz => hz.elim (fun hz => .inl (rch_sum h n z hz)) (fun ⟨w, h1, h2⟩ => .inr ⟨w, rch_sum h n w h1, h2⟩)
/-- A table of rows of distances. -/
def TabX (s : Int) (l : List S71) (t : List (List Int)) : Prop := (t.length : Int) = s ∧ ∀ x : Int, 0 ≤ x → x < s → Lev s l x s (t.getD x.toNat [])
theorem dst_iff {s : Int} {l : List S71} (hG : Gr.Good s l) {t : List (List Int)} (hT : TabX s l t) {x v : Int} (hx : 0 ≤ x ∧ x < s) (hv : 0 ≤ v ∧ v < s) (n : Nat) : (0 ≤ rd (t.getD x.toNat []) v ∧ rd (t.getD x.toNat []) v ≤ n) ↔ Rch l x n v := by
  have h := (hT.2 x hx.1 hx.2).2 v hv.1 hv.2
  by_cases hn : (n : Int) ≤ s
  · exact h.2 n hn
  · have hs := h.2 s.toNat (by omega)
    constructor
    · intro hr
      refine rch_more (n := s.toNat) (by omega) (hs.1 ?_)
      have := h.1
      omega
    · intro hr
      have := hs.2 (rch_all hG x hx n (by omega) v hr)
      omega
end Go.Proofs.Ytcjddikalgnhpaa.Gr
