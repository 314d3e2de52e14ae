/- Functions of the program as Lean functions, that each call comes to what they say, and what holds of them; part 8 of 8; no conditions beyond those that each theorem names. -/
import Derived.KernelRfl
import Derived.Laws.BitsLemmas
import Derived.Test.YtcjddikalgnhpaaK1
import Derived.Test.YtcjddikalgnhpaaK2
import Derived.Test.YtcjddikalgnhpaaK3
import Derived.Test.YtcjddikalgnhpaaK4
import Derived.Test.YtcjddikalgnhpaaK5
import Derived.Test.YtcjddikalgnhpaaK6
import Derived.Test.YtcjddikalgnhpaaK7
namespace Go.Proofs.Ytcjddikalgnhpaa.Gr
open Go.RowKit Go.Proofs.Ytcjddikalgnhpaa.P Go.Proofs.YtcjddikalgnhpaaW.PrintWords Go.Proofs.YtcjddikalgnhpaaW.PrintLast
theorem l1In_eq (a lo hi : Int) : spec_l1In.f a lo hi = some (decide (lo ≤ a ∧ a ≤ hi)) := by
  unfold spec_l1In.f
  by_cases h : a ≥ lo
  · rw [if_pos h]
    simp [show lo ≤ a from h]
  · rw [if_neg h]
    simp [show ¬ lo ≤ a from h]
theorem sz_ev {a : Option Int} {r : Int} (h : a = some r) : Ev (fun _ => a) r := ⟨0, fun _ _ => h⟩
theorem rd_lt (l : List S71) (i : Int) (h0 : 0 ≤ i) (h1 : i < l.length) : l[i.toNat]? = some (rd_T71 l i) := by
  unfold rd_T71
  rw [List.getD_eq_getElem?_getD, List.getElem?_eq_getElem (by omega)]
  rfl
theorem pcmp_iff (a b : S71) : 0 ≤ pcmp a b ↔ ¬ (a.f0 < b.f0 ∨ (a.f0 = b.f0 ∧ a.f1 < b.f1)) := by
  unfold pcmp
  by_cases c1 : a.f0 < b.f0
  · simp [c1]
  · by_cases c2 : a.f0 > b.f0
    · have h : ¬ a.f0 = b.f0 := by omega
      simp [c1, c2, h]
    · have h : a.f0 = b.f0 := by omega
      by_cases c3 : a.f1 < b.f1
      · simp [c3, h]
      · by_cases c4 : a.f1 > b.f1
        · simp [c3, c4, h]
        · simp [c3, c4, h]
theorem before_eq (a b c d : Int) : spec_l2Before.f a b c d = some (decide (a < c ∨ (a = c ∧ b < d))) := by
  unfold spec_l2Before.f
  by_cases c1 : a < c
  · simp [c1]
  · by_cases c2 : a = c
    · subst c2
      simp
    · simp [c1, c2]
theorem good_both (l : List S71) (s : Int) (h0 : 0 ≤ s) (h8 : s ≤ 8) (hl : l.length ≤ 1048576) : ∀ (d : Nat) (i : Int), 0 ≤ i → (l.length : Int) - i = d →
    ∃ b, (b = true → ∀ j : Int, i ≤ j → j < l.length → 0 ≤ (rd_T71 l j).f0 ∧ (rd_T71 l j).f0 < (rd_T71 l j).f1 ∧ (rd_T71 l j).f1 < s ∧ (0 < j → (rd_T71 l (j - 1)).f0 < (rd_T71 l j).f0 ∨ ((rd_T71 l (j - 1)).f0 = (rd_T71 l j).f0 ∧ (rd_T71 l (j - 1)).f1 < (rd_T71 l j).f1))) ∧ Ev (fun k => spec_l2Good.l0 k i s l) b ∧ Ev (fun k => impl_IsGraph.l0 k l s i) b := by
  intro d
  induction d with
  | zero =>
    intro i hi hd
    have hn : ¬ i < (l.length : Int) := by omega
    refine ⟨true, fun _ j h1 h2 => by omega, Ev.step (f := fun _ => some true) (fun k => ?_) (Ev.now true), Ev.step (f := fun _ => some true) (fun k => ?_) (Ev.now true)⟩
    · simp only [spec_l2Good.l0]
      rw [if_neg hn, l1In_eq, Option.bind_some, decide_eq_true ⟨h0, h8⟩]
    · simp only [impl_IsGraph.l0]
      rw [if_neg hn]
  | succ d ih =>
    intro i hi hd
    have hp : i < (l.length : Int) := by omega
    obtain ⟨b, hg, hs, hm⟩ := ih (i + 1) (by omega) (by omega)
    have hw : wrap64 (i + 1) = i + 1 := by unfold wrap64; omega
    have hw1 : wrap64 (i - 1) = i - 1 := by unfold wrap64; omega
    have hw2 : wrap64 (s - 1) = s - 1 := by unfold wrap64; omega
    have no : ∀ k, (0 ≤ (rd_T71 l i).f0 ∧ (rd_T71 l i).f0 < (rd_T71 l i).f1 ∧ (rd_T71 l i).f1 < s ∧ (0 < i → (rd_T71 l (i - 1)).f0 < (rd_T71 l i).f0 ∨ ((rd_T71 l (i - 1)).f0 = (rd_T71 l i).f0 ∧ (rd_T71 l (i - 1)).f1 < (rd_T71 l i).f1))) ∨
        (spec_l2Good.l0 (k + 1) i s l = some false ∧ impl_IsGraph.l0 (k + 1) l s i = some false) := by
      intro k
      simp only [spec_l2Good.l0, impl_IsGraph.l0, l1In_eq, before_eq, hw, hw1, hw2, pcmp_iff, if_pos hp, if_pos hi, Option.bind_some, decide_eq_true_eq]
      by_cases c1 : 0 ≤ (rd_T71 l i).f0
      · by_cases c2 : (rd_T71 l i).f0 < (rd_T71 l i).f1
        · by_cases c3 : (rd_T71 l i).f1 < s
          · by_cases c4 : 0 < i
            · by_cases c5 : (rd_T71 l (i - 1)).f0 < (rd_T71 l i).f0 ∨ ((rd_T71 l (i - 1)).f0 = (rd_T71 l i).f0 ∧ (rd_T71 l (i - 1)).f1 < (rd_T71 l i).f1)
              · exact .inl ⟨c1, c2, c3, fun _ => c5⟩
              · right
                rw [if_pos ⟨c1, by omega⟩, if_pos ⟨by omega, by omega⟩, if_neg (by omega), if_pos c4, if_pos (by omega), if_pos (by omega), if_neg c5, if_neg (by omega), if_neg (by omega), if_neg (by omega), if_pos c4, if_pos c5]
                exact ⟨rfl, rfl⟩
            · exact .inl ⟨c1, c2, c3, fun h => absurd h c4⟩
          · right
            refine ⟨?_, ?_⟩
            · by_cases c6 : 0 ≤ (rd_T71 l i).f0 ∧ (rd_T71 l i).f0 ≤ s - 1
              · rw [if_pos c6, if_neg (by omega)]
              · rw [if_neg c6]
            · rw [if_neg (by omega), if_neg (by omega), if_pos (by omega)]
        · right
          refine ⟨?_, ?_⟩
          · by_cases c6 : 0 ≤ (rd_T71 l i).f0 ∧ (rd_T71 l i).f0 ≤ s - 1
            · rw [if_pos c6]
              by_cases c7 : 0 ≤ (rd_T71 l i).f1 ∧ (rd_T71 l i).f1 ≤ s - 1
              · rw [if_pos c7, if_pos (by omega)]
              · rw [if_neg c7]
            · rw [if_neg c6]
          · rw [if_neg (by omega), if_pos (by omega)]
      · right
        rw [if_neg (by omega), if_pos (by omega)]
        exact ⟨rfl, rfl⟩
    by_cases hc : 0 ≤ (rd_T71 l i).f0 ∧ (rd_T71 l i).f0 < (rd_T71 l i).f1 ∧ (rd_T71 l i).f1 < s ∧ (0 < i → (rd_T71 l (i - 1)).f0 < (rd_T71 l i).f0 ∨ ((rd_T71 l (i - 1)).f0 = (rd_T71 l i).f0 ∧ (rd_T71 l (i - 1)).f1 < (rd_T71 l i).f1))
    · obtain ⟨c1, c2, c3, c5⟩ := hc
      refine ⟨b, fun hb j h1 h2 => ?_, Ev.step (fun k => ?_) hs, Ev.step (fun k => ?_) hm⟩
      · by_cases hj : j = i
        · subst hj
          exact ⟨c1, c2, c3, c5⟩
        · exact hg hb j (by omega) h2
      · simp only [spec_l2Good.l0, l1In_eq, before_eq, hw, hw1, hw2, if_pos hp, if_pos hi, Option.bind_some, decide_eq_true_eq]
        rw [if_pos ⟨c1, by omega⟩, if_pos ⟨by omega, by omega⟩, if_neg (by omega)]
        by_cases c4 : i > 0
        · rw [if_pos c4, if_pos (by omega), if_pos (by omega), if_pos (c5 c4)]
        · rw [if_neg c4]
      · simp only [impl_IsGraph.l0, hw, hw1, pcmp_iff, if_pos hp, if_pos hi]
        rw [if_neg (by omega), if_neg (by omega), if_neg (by omega)]
        by_cases c4 : i > 0
        · rw [if_pos c4, if_neg (fun h => h (c5 c4))]
        · rw [if_neg c4]
    · refine ⟨false, fun h => (by cases h), Ev.step (f := fun _ => some false) (fun k => ?_) (Ev.now false), Ev.step (f := fun _ => some false) (fun k => ?_) (Ev.now false)⟩
      · rcases no k with h | h
        · exact absurd h hc
        · exact h.1
      · rcases no k with h | h
        · exact absurd h hc
        · exact h.2
theorem good_not (l : List S71) (s : Int) (h8 : ¬ (0 ≤ s ∧ s ≤ 8)) (hl : l.length ≤ 1048576) : ∀ (d : Nat) (i : Int), 0 ≤ i → (l.length : Int) - i = d →
    Ev (fun k => spec_l2Good.l0 k i s l) false := by
  intro d
  induction d with
  | zero =>
    intro i hi hd
    have hn : ¬ i < (l.length : Int) := by omega
    refine Ev.step (f := fun _ => some false) (fun k => ?_) (Ev.now false)
    simp only [spec_l2Good.l0]
    rw [if_neg hn, l1In_eq, Option.bind_some, decide_eq_false h8]
  | succ d ih =>
    intro i hi hd
    have hp : i < (l.length : Int) := by omega
    have hw : wrap64 (i + 1) = i + 1 := by unfold wrap64; omega
    have hw1 : wrap64 (i - 1) = i - 1 := by unfold wrap64; omega
    have hr := ih (i + 1) (by omega) (by omega)
    have one : ∀ k, spec_l2Good.l0 (k + 1) i s l = some false ∨ spec_l2Good.l0 (k + 1) i s l = spec_l2Good.l0 k (i + 1) s l := by
      intro k
      simp only [spec_l2Good.l0, l1In_eq, before_eq, hw, hw1, if_pos hp, if_pos hi, Option.bind_some, decide_eq_true_eq]
      repeat' split
      all_goals first | exact .inl rfl | exact .inr rfl | (exfalso; omega)
    obtain ⟨K, hK⟩ := hr
    refine ⟨K + 1, fun k hk => ?_⟩
    obtain ⟨k, rfl⟩ : ∃ m, k = m + 1 := ⟨k - 1, by omega⟩
    rcases one k with h | h
    · exact h
    · exact h.trans (hK k (by omega))
/-- A good graph: at most eight nodes, each edge from a lower node to a higher one. -/
def Good (s : Int) (l : List S71) : Prop := 0 ≤ s ∧ s ≤ 8 ∧ ∀ j : Int, 0 ≤ j → j < l.length → 0 ≤ (rd_T71 l j).f0 ∧ (rd_T71 l j).f0 < (rd_T71 l j).f1 ∧ (rd_T71 l j).f1 < s
/-- Its pairs stand in order. -/
def Sorted (l : List S71) : Prop := ∀ j : Int, 0 < j → j < l.length → (rd_T71 l (j - 1)).f0 < (rd_T71 l j).f0 ∨ ((rd_T71 l (j - 1)).f0 = (rd_T71 l j).f0 ∧ (rd_T71 l (j - 1)).f1 < (rd_T71 l j).f1)
theorem isGraph_full (s : Int) (l : List S71) (hlen : l.length ≤ 1048576) : ∃ b, (b = true → Good s l ∧ Sorted l) ∧ Ev (fun k => spec_l2Good.f k s l) b ∧ Ev (fun k => impl_IsGraph.f k s l) b := by
  by_cases h8 : 0 ≤ s ∧ s ≤ 8
  · obtain ⟨b, hg, hA, hB⟩ := good_both l s h8.1 h8.2 hlen l.length 0 (by omega) (by omega)
    refine ⟨b, fun h => ⟨⟨h8.1, h8.2, fun j h0 h1 => ⟨(hg h j h0 h1).1, (hg h j h0 h1).2.1, (hg h j h0 h1).2.2.1⟩⟩, fun j h0 h1 => (hg h j (by omega) h1).2.2.2 h0⟩, ?_, ?_⟩
    · obtain ⟨K, hK⟩ := hA
      dsimp only at hK
      exact ⟨K, fun k hk => by dsimp only; unfold spec_l2Good.f; exact hK k hk⟩
    · obtain ⟨K, hK⟩ := hB
      dsimp only at hK
      exact ⟨K, fun k hk => by dsimp only; unfold impl_IsGraph.f; rw [if_pos h8]; exact hK k hk⟩
  · refine ⟨false, fun h => (by cases h), ?_, ⟨0, fun k _ => by dsimp only; unfold impl_IsGraph.f; rw [if_neg h8]⟩⟩
    obtain ⟨K, hK⟩ := good_not l s h8 hlen l.length 0 (by omega) (by omega)
    dsimp only at hK
    exact ⟨K, fun k hk => by dsimp only; unfold spec_l2Good.f; exact hK k hk⟩
theorem isGraph_both (s : Int) (l : List S71) (hlen : l.length ≤ 1048576) : ∃ b, (b = true → Good s l) ∧ Ev (fun k => spec_l2Good.f k s l) b ∧ Ev (fun k => impl_IsGraph.f k s l) b := by
  obtain ⟨b, h1, h2, h3⟩ := isGraph_full s l hlen
  exact ⟨b, fun h => (h1 h).1, h2, h3⟩
end Go.Proofs.Ytcjddikalgnhpaa.Gr
namespace Go.Proofs.Ytcjddikalgnhpaa.Gr
open Go.RowKit Go.Proofs.Ytcjddikalgnhpaa.P Go.Proofs.YtcjddikalgnhpaaW.PrintWords Go.Proofs.YtcjddikalgnhpaaW.PrintLast Go.Proofs.YtcjddikalgnhpaaW.PrintMore
/-- Is the edge u, v among the first d pairs from i on? -/
def nearF (l : List S71) (u v : Int) : Nat → Int → Bool
  | 0, _ => false
  | d + 1, i => ((rd_T71 l i).f0 == u && (rd_T71 l i).f1 == v) || ((rd_T71 l i).f0 == v && (rd_T71 l i).f1 == u) || nearF l u v d (i + 1)
def near (l : List S71) (u v : Int) : Bool := nearF l u v l.length 0
theorem near_loop (s : Int) (l : List S71) (u v : Int) (hl : l.length ≤ 1048576) : ∀ (d : Nat) (i : Int), 0 ≤ i → (l.length : Int) - i = d → Ev (fun k => spec_l2Near.l0 k u v i s l) (nearF l u v d i) := by
  intro d
  induction d with
  | zero =>
    intro i hi hd
    refine Ev.step (f := fun _ => some false) (fun k => ?_) (Ev.now false)
    simp only [spec_l2Near.l0]
    rw [if_neg (by omega)]
  | succ d ih =>
    intro i hi hd
    have hp : i < (l.length : Int) := by omega
    have hw : wrap64 (i + 1) = i + 1 := by unfold wrap64; omega
    have hr := ih (i + 1) (by omega) (by omega)
    by_cases hc : ((rd_T71 l i).f0 = u ∧ (rd_T71 l i).f1 = v) ∨ ((rd_T71 l i).f0 = v ∧ (rd_T71 l i).f1 = u)
    · have e : nearF l u v (d + 1) i = true := by
        unfold nearF
        rcases hc with ⟨h1, h2⟩ | ⟨h1, h2⟩ <;> simp [h1, h2]
      rw [e]
      refine Ev.step (f := fun _ => some true) (fun k => ?_) (Ev.now true)
      simp only [spec_l2Near.l0, if_pos hp, if_pos hi]
      repeat' split
      all_goals first | rfl | (exfalso; omega)
    · have e : nearF l u v (d + 1) i = nearF l u v d (i + 1) := by
        have h1 : ((rd_T71 l i).f0 == u && (rd_T71 l i).f1 == v) = false := by
          rw [Bool.and_eq_false_iff]
          by_cases h : (rd_T71 l i).f0 = u
          · right
            simp only [beq_eq_false_iff_ne]
            intro h'
            exact hc (.inl ⟨h, h'⟩)
          · left
            simpa using h
        have h2 : ((rd_T71 l i).f0 == v && (rd_T71 l i).f1 == u) = false := by
          rw [Bool.and_eq_false_iff]
          by_cases h : (rd_T71 l i).f0 = v
          · right
            simp only [beq_eq_false_iff_ne]
            intro h'
            exact hc (.inr ⟨h, h'⟩)
          · left
            simpa using h
        conv => lhs; unfold nearF
        rw [h1, h2]
        rfl
      rw [e]
      refine Ev.step (fun k => ?_) hr
      simp only [spec_l2Near.l0, if_pos hp, if_pos hi, hw]
      repeat' split
      all_goals first | rfl | (exfalso; omega)
theorem near_ev (s : Int) (l : List S71) (u v : Int) (hl : l.length ≤ 1048576) : Ev (fun k => spec_l2Near.f k s l u v) (near l u v) := by
  obtain ⟨K, hK⟩ := near_loop s l u v hl l.length 0 (by omega) (by omega)
  dsimp only at hK
  exact ⟨K, fun k hk => by dsimp only; unfold spec_l2Near.f; exact hK k hk⟩
/-- A node's bit in a mask. -/
def bit (m v : Int) : Bool := Go.bits .and .i64 (shr .i64 m v) 1 == 1
def put (m v : Int) : Int := Go.bits .or .i64 m (shl .i64 1 v)
theorem put_all : ((List.range 256).all fun m => (List.range 8).all fun w => (decide (0 ≤ put m w) && decide (put m w < 256)) && (List.range 8).all fun v => bit (put m w) v == (bit m v || v == w)) = true := by kernel_rfl
theorem zero_all : ((List.range 8).all fun v => bit 0 v == false) = true := by kernel_rfl
theorem put_ok (m w : Int) (h0 : 0 ≤ m) (h1 : m < 256) (h2 : 0 ≤ w) (h3 : w < 8) : 0 ≤ put m w ∧ put m w < 256 ∧ ∀ v : Int, 0 ≤ v → v < 8 → bit (put m w) v = (bit m v || v == w) := by
  have h := List.all_eq_true.1 put_all m.toNat (List.mem_range.2 (by omega))
  have h' := List.all_eq_true.1 h w.toNat (List.mem_range.2 (by omega))
  rw [Int.toNat_of_nonneg h0, Int.toNat_of_nonneg h2, Bool.and_eq_true, Bool.and_eq_true, decide_eq_true_eq, decide_eq_true_eq] at h'
  refine ⟨h'.1.1, h'.1.2, fun v hv0 hv1 => ?_⟩
  have h'' := List.all_eq_true.1 h'.2 v.toNat (List.mem_range.2 (by omega))
  rw [Int.toNat_of_nonneg hv0, beq_iff_eq] at h''
  rw [h'']
  congr 1
  rw [Bool.eq_iff_iff, beq_iff_eq, beq_iff_eq]
  omega
theorem bit_zero (v : Int) (h0 : 0 ≤ v) (h1 : v < 8) : bit 0 v = false := by
  have h := List.all_eq_true.1 zero_all v.toNat (List.mem_range.2 (by omega))
  rw [Int.toNat_of_nonneg h0, beq_iff_eq] at h
  exact h
end Go.Proofs.Ytcjddikalgnhpaa.Gr
namespace Go.Proofs.Ytcjddikalgnhpaa.Gr
open Go.RowKit Go.Proofs.Ytcjddikalgnhpaa.P Go.Proofs.YtcjddikalgnhpaaW.PrintWords Go.Proofs.YtcjddikalgnhpaaW.PrintLast
/-- With rounds enough, g answers something of which Q holds. -/
def Cm {α : Type} (g : Nat → Option α) (Q : α → Prop) : Prop := ∃ r, Ev g r ∧ Q r
theorem Cm.of {α : Type} {g : Nat → Option α} {Q : α → Prop} {r : α} (h : Ev g r) (q : Q r) : Cm g Q := ⟨r, h, q⟩
theorem Cm.now {α : Type} {Q : α → Prop} {r : α} (q : Q r) : Cm (fun _ => some r) Q := ⟨r, Ev.now r, q⟩
theorem Cm.mono {α : Type} {g : Nat → Option α} {Q Q' : α → Prop} (h : Cm g Q) (k : ∀ r, Q r → Q' r) : Cm g Q' := by
  obtain ⟨r, h1, h2⟩ := h
  exact ⟨r, h1, k r h2⟩
theorem Cm.ev {α : Type} {g : Nat → Option α} {r : α} (h : Cm g (fun x => x = r)) : Ev g r := by
  obtain ⟨r', h1, rfl⟩ := h
  exact h1
theorem Ev.cm {α : Type} {g : Nat → Option α} {r : α} (h : Ev g r) : Cm g (fun x => x = r) := ⟨r, h, rfl⟩
theorem Cm.step {α : Type} {g f : Nat → Option α} {Q : α → Prop} (h : ∀ k, g (k + 1) = f k) (k : Cm f Q) : Cm g Q := by
  obtain ⟨r, h1, h2⟩ := k
  exact ⟨r, Ev.step h h1, h2⟩
theorem Cm.congr {α : Type} {g f : Nat → Option α} {Q : α → Prop} (h : ∀ k, g k = f k) (k : Cm f Q) : Cm g Q := by
  obtain ⟨r, h1, h2⟩ := k
  exact ⟨r, Ev.congr h h1, h2⟩
theorem Cm.pos {α : Type} {c : Prop} [Decidable c] {f g : Nat → Option α} {Q : α → Prop} (h : c) (k : Cm f Q) : Cm (fun n => if c then f n else g n) Q :=
  Cm.congr (fun _ => if_pos h) k
theorem Cm.neg {α : Type} {c : Prop} [Decidable c] {f g : Nat → Option α} {Q : α → Prop} (h : ¬ c) (k : Cm g Q) : Cm (fun n => if c then f n else g n) Q :=
  Cm.congr (fun _ => if_neg h) k
theorem Cm.ite {α : Type} {c : Prop} [Decidable c] {f g : Nat → Option α} {Q : α → Prop} (h : c → Cm f Q) (k : ¬ c → Cm g Q) : Cm (fun n => if c then f n else g n) Q := by
  by_cases hc : c
  · exact Cm.pos hc (h hc)
  · exact Cm.neg hc (k hc)
theorem Cm.bind {α β : Type} {f : Nat → Option α} {h : Nat → α → Option β} {P : α → Prop} {Q : β → Prop} (a : Cm f P) (k : ∀ x, P x → Cm (fun n => h n x) Q) : Cm (fun n => (f n).bind (h n)) Q := by
  obtain ⟨x, h1, h2⟩ := a
  obtain ⟨r, h3, h4⟩ := k x h2
  exact ⟨r, Ev.bind h1 h3, h4⟩
theorem Cm.bindE {α β : Type} {f : Nat → Option α} {h : Nat → α → Option β} {x : α} {Q : β → Prop} (a : Ev f x) (k : Cm (fun n => h n x) Q) : Cm (fun n => (f n).bind (h n)) Q := by
  obtain ⟨r, h3, h4⟩ := k
  exact ⟨r, Ev.bind a h3, h4⟩
/-- A loop: each state comes to Q if all states that are smaller do. -/
theorem Cm.meas {σ β : Type} (g : Nat → σ → Option β) (m : σ → Nat) (I : σ → Prop) (Q : σ → β → Prop)
    (hs : ∀ a, I a → (∀ b, I b → m b < m a → Cm (fun k => g k b) (Q b)) → Cm (fun k => g k a) (Q a)) : ∀ a, I a → Cm (fun k => g k a) (Q a) := by
  suffices h : ∀ n a, m a = n → I a → Cm (fun k => g k a) (Q a) from fun a ha => h _ a rfl ha
  intro n
  induction n using Nat.strongRecOn with
  | _ n ih =>
    intro a hn ha
    exact hs a ha (fun b hb hm => ih (m b) (by omega) b rfl hb)
/-- A loop that counts up to n. -/
theorem Cm.up {α β : Type} (g : Nat → Int → α → Option β) (n : Int) (I : Int → α → Prop) (Q : β → Prop)
    (hs : ∀ i a, i ≤ n → I i a → (∀ b, i < n → I (i + 1) b → Cm (fun k => g k (i + 1) b) Q) → Cm (fun k => g k i a) Q) (i : Int) (a : α) (hi : i ≤ n) (hI : I i a) : Cm (fun k => g k i a) Q := by
  obtain ⟨d, hd⟩ : ∃ d : Nat, n - i = d := ⟨(n - i).toNat, by omega⟩
  induction d generalizing i a with
  | zero => exact hs i a hi hI (fun b h _ => by omega)
  | succ d ih => exact hs i a hi hI (fun b h hb => ih (i + 1) b (by omega) hb (by omega))
theorem w64 (x : Int) (h1 : -9223372036854775808 ≤ x) (h2 : x ≤ 9223372036854775807) : wrap64 x = x := by
  unfold wrap64
  omega
/-- The numbers below n, in order. -/
def V (n : Int) : List Int := (List.range n.toNat).map Int.ofNat
theorem V_zero : V 0 = [] := rfl
theorem V_neg {n : Int} (h : n ≤ 0) : V n = [] := by unfold V; rw [show n.toNat = 0 by omega]; rfl
theorem V_succ {n : Int} (h : 0 ≤ n) : V (n + 1) = V n ++ [n] := by
  unfold V
  rw [show (n + 1).toNat = n.toNat + 1 by omega, List.range_succ, List.map_append]
  congr 1
  simp [Int.toNat_of_nonneg h]
theorem V_len (n : Int) : (V n).length = n.toNat := by unfold V; simp
theorem mem_V {n x : Int} : x ∈ V n ↔ 0 ≤ x ∧ x < n := by
  unfold V
  rw [List.mem_map]
  constructor
  · rintro ⟨a, h, rfl⟩
    have := List.mem_range.1 h
    have e : Int.ofNat a = (a : Int) := rfl
    omega
  · rintro ⟨h0, h1⟩
    exact ⟨x.toNat, List.mem_range.2 (by omega), Int.toNat_of_nonneg h0⟩
/-- Rising. -/
abbrev Up (l : List Int) : Prop := l.Pairwise (· < ·)
theorem V_up (n : Int) : Up (V n) := by
  unfold V Up
  rw [List.pairwise_map]
  exact List.Pairwise.imp (fun h => Int.ofNat_lt.2 h) List.pairwise_lt_range
theorem filter_up {l : List Int} (h : Up l) (p : Int → Bool) : Up (l.filter p) := List.Pairwise.filter p h
theorem up_ext : ∀ {a b : List Int}, Up a → Up b → (∀ x, x ∈ a ↔ x ∈ b) → a = b
  | [], [], _, _, _ => rfl
  | [], y :: b, _, _, h => by have := (h y).2 List.mem_cons_self; cases this
  | x :: a, [], _, _, h => by have := (h x).1 List.mem_cons_self; cases this
  | x :: a, y :: b, ha, hb, h => by
    have ha' := List.pairwise_cons.1 ha
    have hb' := List.pairwise_cons.1 hb
    have e : x = y := by
      rcases List.mem_cons.1 ((h x).1 List.mem_cons_self) with e | e
      · exact e
      · rcases List.mem_cons.1 ((h y).2 List.mem_cons_self) with e' | e'
        · exact e'.symm
        · have := hb'.1 x e
          have := ha'.1 y e'
          omega
    subst e
    congr 1
    refine up_ext ha'.2 hb'.2 (fun z => ⟨fun hz => ?_, fun hz => ?_⟩)
    · rcases List.mem_cons.1 ((h z).1 (List.mem_cons_of_mem _ hz)) with e | e
      · subst e; have := ha'.1 z hz; omega
      · exact e
    · rcases List.mem_cons.1 ((h z).2 (List.mem_cons_of_mem _ hz)) with e | e
      · subst e; have := hb'.1 z hz; omega
      · exact e
theorem mem_VF {n x : Int} {p : Int → Bool} : x ∈ (V n).filter p ↔ (0 ≤ x ∧ x < n) ∧ p x = true := by rw [List.mem_filter, mem_V]
theorem VF_congr {n : Int} {p q : Int → Bool} (h : ∀ x, 0 ≤ x → x < n → p x = q x) : (V n).filter p = (V n).filter q :=
  List.filter_congr (fun x hx => h x (mem_V.1 hx).1 (mem_V.1 hx).2)
theorem VF_succ {n : Int} {p : Int → Bool} (h : 0 ≤ n) : (V (n + 1)).filter p = (V n).filter p ++ (if p n = true then [n] else []) := by
  rw [V_succ h, List.filter_append, List.filter_cons]
  rfl
theorem VF_cut {m n : Int} {p : Int → Bool} (hmn : m ≤ n) (hp : ∀ x, m ≤ x → p x = false) : (V n).filter p = (V m).filter p :=
  up_ext (filter_up (V_up _) _) (filter_up (V_up _) _) (fun x => by
    rw [mem_VF, mem_VF]
    constructor
    · rintro ⟨⟨h0, h1⟩, h2⟩
      by_cases h : x < m
      · exact ⟨⟨h0, h⟩, h2⟩
      · rw [hp x (by omega)] at h2; cases h2
    · rintro ⟨⟨h0, h1⟩, h2⟩
      exact ⟨⟨h0, by omega⟩, h2⟩)
theorem VF_len {n : Int} {p : Int → Bool} : ((V n).filter p).length ≤ n.toNat := by
  have := List.length_filter_le p (V n)
  rw [V_len] at this
  exact this
/-- A rising list of numbers below n is a filter of them. -/
theorem up_filter {n : Int} {l : List Int} (h : Up l) (hm : ∀ x ∈ l, 0 ≤ x ∧ x < n) : l = (V n).filter (fun x => decide (x ∈ l)) :=
  up_ext h (filter_up (V_up _) _) (fun x => by
    rw [mem_VF, decide_eq_true_eq]
    exact ⟨fun hx => ⟨hm x hx, hx⟩, fun hx => hx.2⟩)
theorem up_nodup {l : List Int} (h : Up l) : l.Nodup := List.Pairwise.imp (fun h => by omega) h
theorem V_nodup (n : Int) : (V n).Nodup := up_nodup (V_up n)
theorem take_rd (l : List Int) (i : Int) (h0 : 0 ≤ i) (h1 : i < l.length) : l.take (i + 1).toNat = l.take i.toNat ++ [rd l i] := by
  rw [show (i + 1).toNat = i.toNat + 1 by omega, List.take_succ_eq_append_getElem (by omega)]
  congr 2
  unfold rd
  rw [List.getD_eq_getElem?_getD, List.getElem?_eq_getElem (by omega)]
  rfl
theorem take_all (l : List Int) (i : Int) (h : (l.length : Int) ≤ i) : l.take i.toNat = l := List.take_of_length_le (by omega)
theorem rd_mem (l : List Int) (i : Int) (h0 : 0 ≤ i) (h1 : i < l.length) : rd l i ∈ l := by
  unfold rd
  rw [List.getD_eq_getElem?_getD, List.getElem?_eq_getElem (by omega)]
  exact List.getElem_mem _
theorem mem_rd {l : List Int} {x : Int} (h : x ∈ l) : ∃ i : Int, 0 ≤ i ∧ i < l.length ∧ rd l i = x := by
  obtain ⟨j, hj, rfl⟩ := List.mem_iff_getElem.1 h
  refine ⟨j, by omega, by omega, ?_⟩
  unfold rd
  rw [List.getD_eq_getElem?_getD, Int.toNat_natCast, List.getElem?_eq_getElem hj]
  rfl
theorem rd_eq (l : List Int) (i : Nat) (h : i < l.length) : rd l i = l[i] := by
  unfold rd
  rw [List.getD_eq_getElem?_getD, Int.toNat_natCast, List.getElem?_eq_getElem h]
  rfl
theorem rd_ext {a b : List Int} (h : a.length = b.length) (e : ∀ i : Int, 0 ≤ i → i < a.length → rd a i = rd b i) : a = b := by
  apply List.ext_getElem h
  intro i h1 h2
  rw [← rd_eq a i h1, ← rd_eq b i h2]
  exact e i (by omega) (by omega)
theorem up_rd {l : List Int} (h : Up l) (i j : Int) (h0 : 0 ≤ i) (h1 : i < j) (h2 : j < l.length) : rd l i < rd l j := by
  have := List.pairwise_iff_getElem.1 h i.toNat j.toNat (by omega) (by omega) (by omega)
  rw [← rd_eq l _ (by omega), ← rd_eq l _ (by omega), Int.toNat_of_nonneg h0, Int.toNat_of_nonneg (by omega)] at this
  exact this
theorem up_of_rd {l : List Int} (h : ∀ i : Int, 0 < i → i < l.length → rd l (i - 1) < rd l i) : Up l := by
  have key : ∀ (d : Nat) (i : Int), 0 ≤ i → i + (d : Int) + 1 < l.length → rd l i < rd l (i + d + 1) := by
    intro d
    induction d with
    | zero =>
      intro i h0 h1
      have := h (i + 1) (by omega) (by omega)
      rw [show i + 1 - 1 = i by omega] at this
      simpa using this
    | succ d ih =>
      intro i h0 h1
      have a := ih i h0 (by omega)
      have b := h (i + (d : Int) + 1 + 1) (by omega) (by omega)
      rw [show i + (d : Int) + 1 + 1 - 1 = i + d + 1 by omega] at b
      rw [show i + ((d + 1 : Nat) : Int) + 1 = i + (d : Int) + 1 + 1 by omega]
      omega
  refine List.pairwise_iff_getElem.2 (fun i j hi hj hij => ?_)
  have := key (j - i - 1) i (by omega) (by omega)
  rw [show (i : Int) + ((j - i - 1 : Nat) : Int) + 1 = (j : Int) by omega] at this
  rw [← rd_eq l i hi, ← rd_eq l j hj]
  exact this
/-- A list as long as a list of different numbers that are all in it has no others. -/
theorem sub_all : ∀ {a b : List Int}, a.Nodup → (∀ x ∈ a, x ∈ b) → b.length ≤ a.length → ∀ x ∈ b, x ∈ a
  | [], b, _, _, hl, x, hx => by
    have : b = [] := List.length_eq_zero_iff.1 (by simpa using hl)
    subst this
    exact hx
  | y :: a, b, hn, hs, hl, x, hx => by
    have hn' := List.nodup_cons.1 hn
    have hy := hs y List.mem_cons_self
    by_cases e : x = y
    · subst e; exact List.mem_cons_self
    · have h1 : ∀ z ∈ a, z ∈ b.erase y := fun z hz => (List.mem_erase_of_ne (show z ≠ y from fun e' => hn'.1 (by rw [← e']; exact hz))).2 (hs z (List.mem_cons_of_mem _ hz))
      have h2 : (b.erase y).length ≤ a.length := by
        rw [List.length_erase_of_mem hy]
        rw [List.length_cons] at hl
        omega
      exact List.mem_cons_of_mem _ (sub_all hn'.2 h1 h2 x ((List.mem_erase_of_ne e).2 hx))
theorem nodup_le : ∀ {a b : List Int}, a.Nodup → (∀ x ∈ a, x ∈ b) → a.length ≤ b.length
  | [], _, _, _ => by simp
  | y :: a, b, hn, hs => by
    have hn' := List.nodup_cons.1 hn
    have hy := hs y List.mem_cons_self
    have h1 : ∀ z ∈ a, z ∈ b.erase y := fun z hz => (List.mem_erase_of_ne (show z ≠ y from fun e' => hn'.1 (by rw [← e']; exact hz))).2 (hs z (List.mem_cons_of_mem _ hz))
    have h2 := nodup_le hn'.2 h1
    rw [List.length_erase_of_mem hy] at h2
    have h3 : 0 < b.length := List.length_pos_of_mem hy
    rw [List.length_cons]
    omega
end Go.Proofs.Ytcjddikalgnhpaa.Gr
namespace Go.Proofs.Ytcjddikalgnhpaa.Gr
open Go.RowKit Go.Proofs.Ytcjddikalgnhpaa.P Go.Proofs.YtcjddikalgnhpaaW.PrintWords Go.Proofs.YtcjddikalgnhpaaW.PrintLast Go.Proofs.YtcjddikalgnhpaaW.PrintMore
theorem wrap_small (n : Int) (h0 : 0 ≤ n) (h1 : n < 2 ^ 62) : IntKind.i64.wrap n = n := by
  exact (i64_w n).trans (w64 n (by omega) (by omega))
theorem bits_n (a b : Nat) (ha : a < 2 ^ 62) (hb : b < 2 ^ 62) : Go.bits .and .i64 a b = ((a &&& b : Nat) : Int) ∧ Go.bits .or .i64 a b = ((a ||| b : Nat) : Int) :=
  Go.bits_nat .i64 62 (by decide) (fun n h0 h1 => wrap_small n h0 (by exact_mod_cast h1)) a b ha hb
theorem bits_xor (a b : Nat) (ha : a < 2 ^ 62) (hb : b < 2 ^ 62) : Go.bits .xor .i64 a b = ((a ^^^ b : Nat) : Int) := by
  have hp : (2 : Nat) ^ 62 ≤ 2 ^ IntKind.i64.bits := Nat.pow_le_pow_right (by decide) (by decide)
  have ha' : a % 2 ^ IntKind.i64.bits = a := Nat.mod_eq_of_lt (Nat.lt_of_lt_of_le ha hp)
  have hb' : b % 2 ^ IntKind.i64.bits = b := Nat.mod_eq_of_lt (Nat.lt_of_lt_of_le hb hp)
  simp only [Go.bits, BitVec.ofInt_natCast, BitVec.toNat_xor, BitVec.toNat_ofNat, ha', hb']
  exact wrap_small _ (by omega) (by exact_mod_cast Nat.xor_lt_two_pow ha hb)
theorem bits_not (a b : Nat) (ha : a < 2 ^ 62) (hb : b < 2 ^ 62) : ∃ c : Nat, Go.bits .andNot .i64 a b = (c : Int) ∧ c ≤ a ∧ ∀ j, c.testBit j = (a.testBit j && !b.testBit j) := by
  have hp : (2 : Nat) ^ 62 ≤ 2 ^ IntKind.i64.bits := Nat.pow_le_pow_right (by decide) (by decide)
  have ha' : a % 2 ^ IntKind.i64.bits = a := Nat.mod_eq_of_lt (Nat.lt_of_lt_of_le ha hp)
  have hb' : b % 2 ^ IntKind.i64.bits = b := Nat.mod_eq_of_lt (Nat.lt_of_lt_of_le hb hp)
  refine ⟨(BitVec.ofNat IntKind.i64.bits a &&& ~~~BitVec.ofNat IntKind.i64.bits b).toNat, ?_, ?_, fun j => ?_⟩
  · simp only [Go.bits, BitVec.ofInt_natCast]
    refine wrap_small _ (by omega) ?_
    have : (BitVec.ofNat IntKind.i64.bits a &&& ~~~BitVec.ofNat IntKind.i64.bits b).toNat ≤ a := by
      rw [BitVec.toNat_and, BitVec.toNat_ofNat, ha']
      exact Nat.and_le_left
    exact_mod_cast Nat.lt_of_le_of_lt this ha
  · rw [BitVec.toNat_and, BitVec.toNat_ofNat, ha']
    exact Nat.and_le_left
  · rw [BitVec.testBit_toNat, BitVec.getLsbD_and, BitVec.getLsbD_not, BitVec.getLsbD_ofNat, BitVec.getLsbD_ofNat]
    by_cases hj : j < IntKind.i64.bits
    · simp [hj]
    · have h1 : a.testBit j = false := Nat.testBit_lt_two_pow (Nat.lt_of_lt_of_le ha (Nat.le_trans hp (Nat.pow_le_pow_right (by decide) (by omega))))
      simp [h1, hj]
theorem bit_tb (m v : Nat) (hm : m < 2 ^ 62) (hv : v ≤ 64) : bit m v = m.testBit v := by
  unfold bit shr
  rw [show IntKind.i64.bits = 64 from rfl, Int.toNat_natCast, Nat.min_eq_left hv]
  have e : (m : Int) / 2 ^ v = ((m / 2 ^ v : Nat) : Int) := by norm_cast
  rw [e]
  have := (bits_n (m / 2 ^ v) 1 (Nat.lt_of_le_of_lt (Nat.div_le_self _ _) hm) (by decide)).1
  rw [show ((1 : Nat) : Int) = 1 from rfl] at this
  rw [this, Nat.and_one_is_mod, Nat.testBit_eq_decide_div_mod_eq]
  rw [Bool.eq_iff_iff, beq_iff_eq, decide_eq_true_eq]
  omega
theorem bit_i (m v : Int) (h0 : 0 ≤ m) (hm : m < 256) (v0 : 0 ≤ v) (hv : v < 64) : bit m v = m.toNat.testBit v.toNat := by
  have := bit_tb m.toNat v.toNat (by omega) (by omega)
  rwa [Int.toNat_of_nonneg h0, Int.toNat_of_nonneg v0] at this
/-- A mask of eight bits. -/
abbrev M8 (m : Int) : Prop := 0 ≤ m ∧ m < 256
theorem bit_hi (m v : Int) (h : M8 m) (v0 : 8 ≤ v) (hv : v < 64) : bit m v = false := by
  rw [bit_i m v h.1 h.2 (by omega) hv]
  refine Nat.testBit_lt_two_pow (Nat.lt_of_lt_of_le (show m.toNat < 2 ^ 8 by omega) (Nat.pow_le_pow_right (by decide) (by omega)))
theorem and_ok (a b : Int) (ha : M8 a) (hb : M8 b) : M8 (Go.bits .and .i64 a b) ∧ ∀ v : Int, 0 ≤ v → v < 64 → bit (Go.bits .and .i64 a b) v = (bit a v && bit b v) := by
  have e := (bits_n a.toNat b.toNat (by omega) (by omega)).1
  rw [Int.toNat_of_nonneg ha.1, Int.toNat_of_nonneg hb.1] at e
  have hM : M8 (Go.bits .and .i64 a b) := by
    rw [e]
    have := @Nat.and_le_left a.toNat b.toNat
    constructor <;> omega
  refine ⟨hM, fun v v0 v1 => ?_⟩
  rw [bit_i _ v hM.1 hM.2 v0 v1, bit_i a v ha.1 ha.2 v0 v1, bit_i b v hb.1 hb.2 v0 v1, e, Int.toNat_natCast, Nat.testBit_and]
theorem or_ok (a b : Int) (ha : M8 a) (hb : M8 b) : M8 (Go.bits .or .i64 a b) ∧ ∀ v : Int, 0 ≤ v → v < 64 → bit (Go.bits .or .i64 a b) v = (bit a v || bit b v) := by
  have e := (bits_n a.toNat b.toNat (by omega) (by omega)).2
  rw [Int.toNat_of_nonneg ha.1, Int.toNat_of_nonneg hb.1] at e
  have hM : M8 (Go.bits .or .i64 a b) := by
    rw [e]
    have : a.toNat ||| b.toNat < 2 ^ 8 := Nat.or_lt_two_pow (by omega) (by omega)
    constructor <;> omega
  refine ⟨hM, fun v v0 v1 => ?_⟩
  rw [bit_i _ v hM.1 hM.2 v0 v1, bit_i a v ha.1 ha.2 v0 v1, bit_i b v hb.1 hb.2 v0 v1, e, Int.toNat_natCast, Nat.testBit_or]
theorem xor_ok (a b : Int) (ha : M8 a) (hb : M8 b) : M8 (Go.bits .xor .i64 a b) ∧ ∀ v : Int, 0 ≤ v → v < 64 → bit (Go.bits .xor .i64 a b) v = (bit a v ^^ bit b v) := by
  have e := bits_xor a.toNat b.toNat (by omega) (by omega)
  rw [Int.toNat_of_nonneg ha.1, Int.toNat_of_nonneg hb.1] at e
  have hM : M8 (Go.bits .xor .i64 a b) := by
    rw [e]
    have : a.toNat ^^^ b.toNat < 2 ^ 8 := Nat.xor_lt_two_pow (by omega) (by omega)
    constructor <;> omega
  refine ⟨hM, fun v v0 v1 => ?_⟩
  rw [bit_i _ v hM.1 hM.2 v0 v1, bit_i a v ha.1 ha.2 v0 v1, bit_i b v hb.1 hb.2 v0 v1, e, Int.toNat_natCast, Nat.testBit_xor]
theorem not_ok (a b : Int) (ha : M8 a) (hb : M8 b) : M8 (Go.bits .andNot .i64 a b) ∧ ∀ v : Int, 0 ≤ v → v < 64 → bit (Go.bits .andNot .i64 a b) v = (bit a v && !bit b v) := by
  obtain ⟨c, e, hc, ht⟩ := bits_not a.toNat b.toNat (by omega) (by omega)
  rw [Int.toNat_of_nonneg ha.1, Int.toNat_of_nonneg hb.1] at e
  have hM : M8 (Go.bits .andNot .i64 a b) := by
    rw [e]
    constructor <;> omega
  refine ⟨hM, fun v v0 v1 => ?_⟩
  rw [bit_i _ v hM.1 hM.2 v0 v1, bit_i a v ha.1 ha.2 v0 v1, bit_i b v hb.1 hb.2 v0 v1, e, Int.toNat_natCast, ht]
theorem mask_ext (a b : Int) (ha : M8 a) (hb : M8 b) (h : ∀ v : Int, 0 ≤ v → v < 8 → bit a v = bit b v) : a = b := by
  have : a.toNat = b.toNat := by
    refine Nat.eq_of_testBit_eq (fun j => ?_)
    by_cases hj : j < 8
    · have := h j (by omega) (by omega)
      rw [bit_i a j ha.1 ha.2 (by omega) (by omega), bit_i b j hb.1 hb.2 (by omega) (by omega), Int.toNat_natCast] at this
      exact this
    · rw [Nat.testBit_lt_two_pow (Nat.lt_of_lt_of_le (show a.toNat < 2 ^ 8 by omega) (Nat.pow_le_pow_right (by decide) (by omega))), Nat.testBit_lt_two_pow (Nat.lt_of_lt_of_le (show b.toNat < 2 ^ 8 by omega) (Nat.pow_le_pow_right (by decide) (by omega)))]
  omega
theorem one_all : ((List.range 8).all fun v => (decide (0 ≤ shl .i64 1 v) && decide (shl .i64 1 v < 256)) && (List.range 64).all fun u => bit (shl .i64 1 v) u == (u == v)) = true := by kernel_rfl
theorem one_ok (v : Int) (h0 : 0 ≤ v) (h1 : v < 8) : M8 (shl .i64 1 v) ∧ ∀ u : Int, 0 ≤ u → u < 64 → bit (shl .i64 1 v) u = (u == v) := by
  have h := List.all_eq_true.1 one_all v.toNat (List.mem_range.2 (by omega))
  rw [Int.toNat_of_nonneg h0, Bool.and_eq_true, Bool.and_eq_true, decide_eq_true_eq, decide_eq_true_eq] at h
  refine ⟨h.1, fun u u0 u1 => ?_⟩
  have h' := List.all_eq_true.1 h.2 u.toNat (List.mem_range.2 (by omega))
  rw [Int.toNat_of_nonneg u0, beq_iff_eq] at h'
  rw [h', Bool.eq_iff_iff, beq_iff_eq, beq_iff_eq]
  omega
theorem full_all : ((List.range 9).all fun n => (decide (0 ≤ wrap64 (shl .i64 1 n - 1)) && decide (wrap64 (shl .i64 1 n - 1) < 256)) && (List.range 64).all fun u => bit (wrap64 (shl .i64 1 n - 1)) u == decide (u < n)) = true := by kernel_rfl
theorem full_ok (n : Int) (h0 : 0 ≤ n) (h1 : n ≤ 8) : M8 (wrap64 (shl .i64 1 n - 1)) ∧ ∀ u : Int, 0 ≤ u → u < 64 → bit (wrap64 (shl .i64 1 n - 1)) u = decide (u < n) := by
  have h := List.all_eq_true.1 full_all n.toNat (List.mem_range.2 (by omega))
  rw [Int.toNat_of_nonneg h0, Bool.and_eq_true, Bool.and_eq_true, decide_eq_true_eq, decide_eq_true_eq] at h
  refine ⟨h.1, fun u u0 u1 => ?_⟩
  have h' := List.all_eq_true.1 h.2 u.toNat (List.mem_range.2 (by omega))
  rw [Int.toNat_of_nonneg u0, beq_iff_eq] at h'
  rw [h', decide_eq_decide]
  omega
theorem zero_ok : M8 0 ∧ ∀ v : Int, 0 ≤ v → v < 64 → bit 0 v = false := by
  refine ⟨by decide, fun v h0 h1 => ?_⟩
  rw [bit_i 0 v (by omega) (by omega) h0 h1]
  exact Nat.zero_testBit _
theorem set8_all : ((List.range 256).all fun m => impl_setOf.f 20 m == some ((V 8).filter (bit m))) = true := by kernel_rfl
/-- The nodes of a mask, in order. -/
theorem set8_ev (m : Int) (h : M8 m) : Ev (fun k => impl_setOf.f k m) ((V 8).filter (bit m)) := by
  have h' := List.all_eq_true.1 set8_all m.toNat (List.mem_range.2 (by omega))
  rw [Int.toNat_of_nonneg h.1, beq_iff_eq] at h'
  exact Ev.of (fun k => impl_setOf.mono m k) h'
theorem setP_ev (m : Int) (h : M8 m) (s : Int) (h8 : s ≤ 8) (p : Int → Bool) (hp : ∀ v : Int, 0 ≤ v → v < 8 → bit m v = (decide (v < s) && p v)) : Ev (fun k => impl_setOf.f k m) ((V s).filter p) := by
  have e : (V 8).filter (bit m) = (V s).filter p := by
    refine up_ext (filter_up (V_up _) _) (filter_up (V_up _) _) (fun x => ?_)
    rw [mem_VF, mem_VF]
    constructor
    · rintro ⟨⟨h0, h1⟩, h2⟩
      rw [hp x h0 h1, Bool.and_eq_true, decide_eq_true_eq] at h2
      exact ⟨⟨h0, h2.1⟩, h2.2⟩
    · rintro ⟨⟨h0, h1⟩, h2⟩
      exact ⟨⟨h0, by omega⟩, by rw [hp x h0 (by omega), h2, decide_eq_true h1]; rfl⟩
  rw [← e]
  exact set8_ev m h
theorem rd_set (m : List Int) (i j x : Int) (h0 : 0 ≤ i) (h1 : i < m.length) (h2 : 0 ≤ j) : rd (m.set i.toNat x) j = if i = j then x else rd m j := by
  unfold rd
  rw [List.getD_eq_getElem?_getD, List.getD_eq_getElem?_getD]
  by_cases h : i = j
  · subst h
    rw [List.getElem?_set_self (by omega), if_pos rfl]
    rfl
  · rw [List.getElem?_set_ne (by omega), if_neg h]
/-- Masks of n nodes. -/
def Masks (s : Int) (m : List Int) : Prop := (m.length : Int) = s ∧ ∀ u : Int, 0 ≤ u → u < s → 0 ≤ rd m u ∧ rd m u < 256
theorem net_loop (s : Int) (l : List S71) (hl : l.length ≤ 1048576) (hg : Good s l) : ∀ (d : Nat) (i : Int) (m : List Int), 0 ≤ i → (l.length : Int) - i = d → Masks s m →
    ∃ r, Masks s r ∧ (∀ u v : Int, 0 ≤ u → u < s → 0 ≤ v → v < 8 → bit (rd r u) v = (bit (rd m u) v || nearF l u v d i)) ∧ Ev (fun k => impl_netOf.l0 k l l.length i m) r := by
  intro d
  induction d with
  | zero =>
    intro i m hi hd hm
    refine ⟨m, hm, fun u v _ _ _ _ => by simp [nearF], Ev.step (f := fun _ => some m) (fun k => ?_) (Ev.now m)⟩
    simp only [impl_netOf.l0]
    rw [if_neg (by omega)]
  | succ d ih =>
    intro i m hi hd hm
    obtain ⟨hs0, hs8, hgood⟩ := hg
    obtain ⟨g0, g1, g2⟩ := hgood i hi (by omega)
    have hw : wrap64 (i + 1) = i + 1 := by unfold wrap64; omega
    have hlen := hm.1
    obtain ⟨a, ha⟩ : ∃ a, a = (rd_T71 l i).f0 := ⟨_, rfl⟩
    obtain ⟨b, hb⟩ : ∃ b, b = (rd_T71 l i).f1 := ⟨_, rfl⟩
    rw [← ha] at g0 g1
    rw [← hb] at g1 g2
    obtain ⟨pa0, pa1, pa⟩ := put_ok (rd m a) b (hm.2 a g0 (by omega)).1 (hm.2 a g0 (by omega)).2 (by omega) (by omega)
    obtain ⟨pb0, pb1, pb⟩ := put_ok (rd m b) a (hm.2 b (by omega) g2).1 (hm.2 b (by omega) g2).2 g0 (by omega)
    obtain ⟨m1, hm1⟩ : ∃ m1, m1 = m.set a.toNat (put (rd m a) b) := ⟨_, rfl⟩
    obtain ⟨m2, hm2⟩ : ∃ m2, m2 = m1.set b.toNat (put (rd m1 b) a) := ⟨_, rfl⟩
    have l1 : m1.length = m.length := by rw [hm1, List.length_set]
    have l2 : m2.length = m.length := by rw [hm2, List.length_set, l1]
    have r1 : ∀ u : Int, 0 ≤ u → rd m1 u = if a = u then put (rd m a) b else rd m u := fun u hu => by rw [hm1]; exact rd_set m a u _ g0 (by omega) hu
    have r1b : rd m1 b = rd m b := by rw [r1 b (by omega), if_neg (by omega)]
    have r2 : ∀ u : Int, 0 ≤ u → rd m2 u = if b = u then put (rd m b) a else if a = u then put (rd m a) b else rd m u := fun u hu => by
      rw [hm2, rd_set m1 b u _ (by omega) (by omega) hu, r1b]
      by_cases h : b = u
      · rw [if_pos h, if_pos h]
      · rw [if_neg h, if_neg h, r1 u hu]
    have hm' : Masks s m2 := by
      refine ⟨by rw [l2]; exact hm.1, fun u hu0 hu1 => ?_⟩
      rw [r2 u hu0]
      by_cases h : b = u
      · rw [if_pos h]; exact ⟨pb0, pb1⟩
      · rw [if_neg h]
        by_cases h' : a = u
        · rw [if_pos h']; exact ⟨pa0, pa1⟩
        · rw [if_neg h']; exact hm.2 u hu0 hu1
    obtain ⟨r, hr, hbit, hev⟩ := ih (i + 1) m2 (by omega) (by omega) hm'
    refine ⟨r, hr, fun u v hu0 hu1 hv0 hv1 => ?_, Ev.step (fun k => ?_) hev⟩
    · rw [hbit u v hu0 hu1 hv0 hv1, r2 u hu0]
      conv => rhs; unfold nearF
      rw [← ha, ← hb]
      by_cases h : b = u
      · subst h
        rw [if_pos rfl, pb v hv0 hv1]
        have e1 : (a == b) = false := by simp; omega
        have e2 : (v == a) = (a == v) := by rw [Bool.eq_iff_iff]; simp; omega
        have e3 : (b == b) = true := by simp
        rw [e1, e2, e3]
        cases bit (rd m b) v <;> cases (a == v) <;> simp
      · rw [if_neg h]
        have e0 : (b == u) = false := by simpa using h
        by_cases h' : a = u
        · subst h'
          rw [if_pos rfl, pa v hv0 hv1]
          have e2 : (v == b) = (b == v) := by rw [Bool.eq_iff_iff]; simp; omega
          have e3 : (a == a) = true := by simp
          rw [e0, e2, e3]
          cases bit (rd m a) v <;> cases (b == v) <;> simp
        · rw [if_neg h']
          have e1 : (a == u) = false := by simpa using h'
          rw [e0, e1]
          simp
    · simp only [impl_netOf.l0, Option.bind_some]
      rw [← ha, ← hb]
      rw [if_pos (by omega), if_pos hi, if_pos (by omega), if_pos g0, if_pos (by omega), if_pos (by omega), if_pos (by omega), hw]
      show impl_netOf.l0 k l l.length (i + 1) ((m.set a.toNat (put (rd m a) b)).set b.toNat (put (rd (m.set a.toNat (put (rd m a) b)) b) a)) = _
      rw [← hm1, ← hm2]
theorem net_ev (s : Int) (l : List S71) (hl : l.length ≤ 1048576) (hg : Good s l) : ∃ r, Masks s r ∧ (∀ u v : Int, 0 ≤ u → u < s → 0 ≤ v → v < 8 → bit (rd r u) v = near l u v) ∧ Ev (fun k => impl_netOf.f k s l) r := by
  have hg' := hg
  obtain ⟨h0, h8, _⟩ := hg'
  have hz : Masks s (List.replicate s.toNat 0) := by
    refine ⟨by simp; omega, fun u hu0 hu1 => ?_⟩
    have : rd (List.replicate s.toNat 0) u = 0 := by
      unfold rd
      rw [List.getD_eq_getElem?_getD, List.getElem?_replicate, if_pos (by omega)]
      rfl
    rw [this]
    omega
  obtain ⟨r, hr, hb, K, hK⟩ := net_loop s l hl hg l.length 0 _ (by omega) (by omega) hz
  dsimp only at hK
  refine ⟨r, hr, fun u v hu0 hu1 hv0 hv1 => ?_, K, fun k hk => ?_⟩
  · rw [hb u v hu0 hu1 hv0 hv1]
    have : rd (List.replicate s.toNat 0) u = 0 := by
      unfold rd
      rw [List.getD_eq_getElem?_getD, List.getElem?_replicate, if_pos (by omega)]
      rfl
    rw [this, bit_zero v hv0 hv1, Bool.false_or]
    rfl
  · dsimp only
    unfold impl_netOf.f
    rw [if_pos h0, if_pos (by omega)]
    exact hK k hk
theorem near_out_loop (s : Int) (l : List S71) (hg : Good s l) (u v : Int) (hv : s ≤ v) : ∀ (d : Nat) (i : Int), 0 ≤ i → (l.length : Int) - i = d → nearF l u v d i = false := by
  intro d
  induction d with
  | zero => intro i _ _; rfl
  | succ d ih =>
    intro i hi hd
    obtain ⟨g0, g1, g2⟩ := hg.2.2 i hi (by omega)
    unfold nearF
    rw [ih (i + 1) (by omega) (by omega)]
    have e1 : ((rd_T71 l i).f1 == v) = false := by simp; omega
    have e2 : ((rd_T71 l i).f0 == v) = false := by simp; omega
    rw [e1, e2]
    simp
theorem near_out (s : Int) (l : List S71) (hg : Good s l) (u v : Int) (hv : s ≤ v) : near l u v = false := near_out_loop s l hg u v hv l.length 0 (by omega) (by omega)
end Go.Proofs.Ytcjddikalgnhpaa.Gr
namespace Go.Proofs.Ytcjddikalgnhpaa.Gr
open Go.RowKit Go.Proofs.Ytcjddikalgnhpaa.P Go.Proofs.YtcjddikalgnhpaaW.PrintWords Go.Proofs.YtcjddikalgnhpaaW.PrintLast
def rowF (h : Int → Int → Bool) (x : Int) : Nat → Int → List S71
  | 0, _ => []
  | d + 1, y => (if h x y = true then [⟨x, y⟩] else []) ++ rowF h x d (y + 1)
def allF (h : Int → Int → Bool) : Nat → Int → List S71
  | 0, _ => []
  | d + 1, x => rowF h x d (x + 1) ++ allF h d (x + 1)
/-- The pairs x < y below n for which h says yes, in order. -/
def pairs (h : Int → Int → Bool) (n : Int) : List S71 := allF h n.toNat 0
theorem rowF_len (h : Int → Int → Bool) (x : Int) : ∀ d y, (rowF h x d y).length ≤ d
  | 0, _ => Nat.le_refl _
  | d + 1, y => by
    have := rowF_len h x d (y + 1)
    unfold rowF
    rw [List.length_append]
    split <;> simp <;> omega
theorem allF_len (h : Int → Int → Bool) (N : Nat) : ∀ d x, d ≤ N → (allF h d x).length ≤ d * N
  | 0, _, _ => by simp [allF]
  | d + 1, x, hd => by
    have h1 := rowF_len h x d (x + 1)
    have h2 := allF_len h N d (x + 1) (by omega)
    unfold allF
    rw [List.length_append, Nat.succ_mul]
    omega
theorem pairs_len (h : Int → Int → Bool) (n : Int) (hn : n ≤ 1000) : (pairs h n).length ≤ 1000000 := by
  have h1 := allF_len h 1000 n.toNat 0 (by omega)
  unfold pairs
  omega
theorem rowF_congr (h h' : Int → Int → Bool) (x : Int) : ∀ (d : Nat) (y : Int), (∀ z : Int, y ≤ z → z < y + (d : Int) → h x z = h' x z) → rowF h x d y = rowF h' x d y
  | 0, _, _ => rfl
  | d + 1, y, e => by
    unfold rowF
    rw [e y (by omega) (by omega), rowF_congr h h' x d (y + 1) (fun z h1 h2 => e z (by omega) (by omega))]
theorem allF_congr (h h' : Int → Int → Bool) : ∀ (d : Nat) (x : Int), (∀ a b : Int, x ≤ a → a < b → b < x + (d : Int) → h a b = h' a b) → allF h d x = allF h' d x
  | 0, _, _ => rfl
  | d + 1, x, e => by
    unfold allF
    rw [rowF_congr h h' x d (x + 1) (fun z h1 h2 => e x z (by omega) (by omega) (by omega)), allF_congr h h' d (x + 1) (fun a b h1 h2 h3 => e a b (by omega) h2 (by omega))]
theorem pairs_congr (h h' : Int → Int → Bool) (n : Int) (e : ∀ a b : Int, 0 ≤ a → a < b → b < n → h a b = h' a b) : pairs h n = pairs h' n :=
  allF_congr h h' n.toNat 0 (fun a b h1 h2 h3 => e a b h1 h2 (by omega))
end Go.Proofs.Ytcjddikalgnhpaa.Gr
namespace Go.Proofs.Ytcjddikalgnhpaa.Gr
open Go.RowKit Go.Proofs.Ytcjddikalgnhpaa.P Go.Proofs.YtcjddikalgnhpaaW.PrintWords Go.Proofs.YtcjddikalgnhpaaW.PrintLast Go.Proofs.YtcjddikalgnhpaaW.PrintMore
theorem rdT_eq (l : List S71) (i : Nat) (h : i < l.length) : rd_T71 l i = l[i] := by
  unfold rd_T71
  rw [List.getD_eq_getElem?_getD, Int.toNat_natCast, List.getElem?_eq_getElem h]
  rfl
theorem rdT_mem (l : List S71) (i : Int) (h0 : 0 ≤ i) (h1 : i < l.length) : rd_T71 l i ∈ l := by
  have := rdT_eq l i.toNat (by omega)
  rw [Int.toNat_of_nonneg h0] at this
  rw [this]
  exact List.getElem_mem _
theorem mem_rdT {l : List S71} {x : S71} (h : x ∈ l) : ∃ i : Int, 0 ≤ i ∧ i < l.length ∧ rd_T71 l i = x := by
  obtain ⟨j, hj, rfl⟩ := List.mem_iff_getElem.1 h
  exact ⟨j, by omega, by omega, rdT_eq l j hj⟩
theorem takeT (l : List S71) (i : Int) (h0 : 0 ≤ i) (h1 : i < l.length) : l.take (i + 1).toNat = l.take i.toNat ++ [rd_T71 l i] := by
  rw [show (i + 1).toNat = i.toNat + 1 by omega, List.take_succ_eq_append_getElem (by omega)]
  have := rdT_eq l i.toNat (by omega)
  rw [Int.toNat_of_nonneg h0] at this
  rw [this]
theorem takeT_all (l : List S71) (i : Int) (h : (l.length : Int) ≤ i) : l.take i.toNat = l := List.take_of_length_le (by omega)
def ltP (a b : S71) : Prop := a.f0 < b.f0 ∨ (a.f0 = b.f0 ∧ a.f1 < b.f1)
abbrev Up2 (l : List S71) : Prop := l.Pairwise ltP
theorem ltP_irr {a : S71} (h : ltP a a) : False := by unfold ltP at h; omega
theorem ltP_trans {a b c : S71} (h : ltP a b) (k : ltP b c) : ltP a c := by unfold ltP at *; omega
theorem ltP_asymm {a b : S71} (h : ltP a b) (k : ltP b a) : False := ltP_irr (ltP_trans h k)
theorem ltP_tri (a b : S71) (h : ¬ ltP a b) (k : ¬ ltP b a) : a = b := by
  cases a; cases b
  unfold ltP at *
  dsimp only at *
  congr 1 <;> omega
theorem up2_ext : ∀ {a b : List S71}, Up2 a → Up2 b → (∀ x, x ∈ a ↔ x ∈ b) → a = b
  | [], [], _, _, _ => rfl
  | [], y :: b, _, _, h => by have := (h y).2 List.mem_cons_self; cases this
  | x :: a, [], _, _, h => by have := (h x).1 List.mem_cons_self; cases this
  | x :: a, y :: b, ha, hb, h => by
    have ha' := List.pairwise_cons.1 ha
    have hb' := List.pairwise_cons.1 hb
    have e : x = y := by
      rcases List.mem_cons.1 ((h x).1 List.mem_cons_self) with e | e
      · exact e
      · rcases List.mem_cons.1 ((h y).2 List.mem_cons_self) with e' | e'
        · exact e'.symm
        · exact (ltP_asymm (hb'.1 x e) (ha'.1 y e')).elim
    subst e
    congr 1
    refine up2_ext ha'.2 hb'.2 (fun z => ⟨fun hz => ?_, fun hz => ?_⟩)
    · rcases List.mem_cons.1 ((h z).1 (List.mem_cons_of_mem _ hz)) with e | e
      · subst e; exact (ltP_irr (ha'.1 z hz)).elim
      · exact e
    · rcases List.mem_cons.1 ((h z).2 (List.mem_cons_of_mem _ hz)) with e | e
      · subst e; exact (ltP_irr (hb'.1 z hz)).elim
      · exact e
theorem sorted_up2 {l : List S71} (h : Sorted l) : Up2 l := by
  have key : ∀ (d : Nat) (i : Int), 0 ≤ i → i + (d : Int) + 1 < l.length → ltP (rd_T71 l i) (rd_T71 l (i + d + 1)) := by
    intro d
    induction d with
    | zero =>
      intro i h0 h1
      have := h (i + 1) (by omega) (by omega)
      rw [show i + 1 - 1 = i by omega] at this
      rw [show i + ((0 : Nat) : Int) + 1 = i + 1 by omega]
      exact this
    | succ d ih =>
      intro i h0 h1
      have a := ih i h0 (by omega)
      have b := h (i + (d : Int) + 1 + 1) (by omega) (by omega)
      rw [show i + (d : Int) + 1 + 1 - 1 = i + d + 1 by omega] at b
      rw [show i + ((d + 1 : Nat) : Int) + 1 = i + (d : Int) + 1 + 1 by omega]
      exact ltP_trans a b
  refine List.pairwise_iff_getElem.2 (fun i j hi hj hij => ?_)
  have := key (j - i - 1) i (by omega) (by omega)
  rw [show (i : Int) + ((j - i - 1 : Nat) : Int) + 1 = (j : Int) by omega] at this
  rw [← rdT_eq l i hi, ← rdT_eq l j hj]
  exact this
theorem good_mem {s : Int} {l : List S71} (h : Good s l) {e : S71} (he : e ∈ l) : 0 ≤ e.f0 ∧ e.f0 < e.f1 ∧ e.f1 < s := by
  obtain ⟨i, h0, h1, rfl⟩ := mem_rdT he
  exact h.2.2 i h0 h1
theorem nearF_iff (l : List S71) (u v : Int) : ∀ (d : Nat) (i : Int), 0 ≤ i → (l.length : Int) - i = d → (nearF l u v d i = true ↔ ∃ j : Int, i ≤ j ∧ j < l.length ∧ (rd_T71 l j = ⟨u, v⟩ ∨ rd_T71 l j = ⟨v, u⟩)) := by
  intro d
  induction d with
  | zero =>
    intro i h0 hd
    constructor
    · intro h; cases h
    · rintro ⟨j, h1, h2, _⟩; omega
  | succ d ih =>
    intro i h0 hd
    unfold nearF
    rw [Bool.or_eq_true, Bool.or_eq_true, ih (i + 1) (by omega) (by omega), Bool.and_eq_true, Bool.and_eq_true, beq_iff_eq, beq_iff_eq, beq_iff_eq, beq_iff_eq]
    have ex : ∀ a b : Int, (rd_T71 l i).f0 = a ∧ (rd_T71 l i).f1 = b ↔ rd_T71 l i = ⟨a, b⟩ := fun a b => ⟨fun ⟨h1, h2⟩ => by rw [← h1, ← h2], fun h => by rw [h]; exact ⟨rfl, rfl⟩⟩
    rw [ex, ex]
    constructor
    · rintro ((h | h) | ⟨j, h1, h2, h3⟩)
      · exact ⟨i, by omega, by omega, .inl h⟩
      · exact ⟨i, by omega, by omega, .inr h⟩
      · exact ⟨j, by omega, h2, h3⟩
    · rintro ⟨j, h1, h2, h3⟩
      by_cases e : j = i
      · subst e
        exact .inl h3
      · exact .inr ⟨j, by omega, h2, h3⟩
theorem near_iff (l : List S71) (u v : Int) : near l u v = true ↔ (⟨u, v⟩ : S71) ∈ l ∨ (⟨v, u⟩ : S71) ∈ l := by
  unfold near
  rw [nearF_iff l u v l.length 0 (by omega) (by omega)]
  constructor
  · rintro ⟨j, h1, h2, h3 | h3⟩
    · exact .inl (h3 ▸ rdT_mem l j h1 h2)
    · exact .inr (h3 ▸ rdT_mem l j h1 h2)
  · rintro (h | h)
    · obtain ⟨j, h0, h1, h2⟩ := mem_rdT h
      exact ⟨j, h0, h1, .inl h2⟩
    · obtain ⟨j, h0, h1, h2⟩ := mem_rdT h
      exact ⟨j, h0, h1, .inr h2⟩
theorem near_symm (l : List S71) (u v : Int) : near l u v = near l v u := by
  rw [Bool.eq_iff_iff, near_iff, near_iff]
  exact Or.comm
theorem near_in {s : Int} {l : List S71} (h : Good s l) {u v : Int} (hn : near l u v = true) : (0 ≤ u ∧ u < s) ∧ (0 ≤ v ∧ v < s) ∧ u ≠ v := by
  rcases (near_iff l u v).1 hn with e | e
  · have := good_mem h e
    dsimp only at this
    omega
  · have := good_mem h e
    dsimp only at this
    omega
theorem near_lt {s : Int} {l : List S71} (h : Good s l) {u v : Int} (huv : u < v) : near l u v = true ↔ (⟨u, v⟩ : S71) ∈ l := by
  rw [near_iff]
  refine ⟨fun k => k.elim id (fun e => ?_), .inl⟩
  have := good_mem h e
  dsimp only at this
  omega
theorem mem_rowF (h : Int → Int → Bool) (x : Int) (e : S71) : ∀ (d : Nat) (y : Int), e ∈ rowF h x d y ↔ e.f0 = x ∧ y ≤ e.f1 ∧ e.f1 < y + d ∧ h x e.f1 = true
  | 0, y => by
    constructor
    · intro h; cases h
    · rintro ⟨_, h1, h2, _⟩; omega
  | d + 1, y => by
    unfold rowF
    rw [List.mem_append, mem_rowF h x e d (y + 1)]
    constructor
    · rintro (hm | ⟨h0, h1, h2, h3⟩)
      · by_cases hc : h x y = true
        · rw [if_pos hc, List.mem_singleton] at hm
          subst hm
          exact ⟨rfl, by show y ≤ y; omega, by show y < y + _; omega, hc⟩
        · rw [if_neg hc] at hm; cases hm
      · exact ⟨h0, by omega, by omega, h3⟩
    · rintro ⟨h0, h1, h2, h3⟩
      by_cases hy : e.f1 = y
      · left
        rw [← hy, if_pos h3, List.mem_singleton, ← h0]
      · exact .inr ⟨h0, by omega, by omega, h3⟩
theorem rowF_up (h : Int → Int → Bool) (x : Int) : ∀ (d : Nat) (y : Int), Up2 (rowF h x d y)
  | 0, y => List.Pairwise.nil
  | d + 1, y => by
    unfold rowF
    refine List.pairwise_append.2 ⟨?_, rowF_up h x d (y + 1), fun a ha b hb => ?_⟩
    · split
      · exact List.pairwise_singleton _ _
      · exact List.Pairwise.nil
    · have hb' := (mem_rowF h x b d (y + 1)).1 hb
      by_cases hc : h x y = true
      · rw [if_pos hc, List.mem_singleton] at ha
        subst ha
        exact .inr ⟨hb'.1.symm, by show y < _; omega⟩
      · rw [if_neg hc] at ha; cases ha
theorem mem_allF (h : Int → Int → Bool) (e : S71) : ∀ (d : Nat) (x : Int), e ∈ allF h d x ↔ x ≤ e.f0 ∧ e.f0 < e.f1 ∧ e.f1 < x + d ∧ h e.f0 e.f1 = true
  | 0, x => by
    constructor
    · intro h; cases h
    · rintro ⟨h1, h2, h3, _⟩; omega
  | d + 1, x => by
    unfold allF
    rw [List.mem_append, mem_rowF, mem_allF h e d (x + 1)]
    constructor
    · rintro (⟨h0, h1, h2, h3⟩ | ⟨h0, h1, h2, h3⟩)
      · exact ⟨by omega, by omega, by omega, by rw [h0]; exact h3⟩
      · exact ⟨by omega, h1, by omega, h3⟩
    · rintro ⟨h0, h1, h2, h3⟩
      by_cases hx : e.f0 = x
      · exact .inl ⟨hx, by omega, by omega, by rw [← hx]; exact h3⟩
      · exact .inr ⟨by omega, h1, by omega, h3⟩
theorem allF_up (h : Int → Int → Bool) : ∀ (d : Nat) (x : Int), Up2 (allF h d x)
  | 0, x => List.Pairwise.nil
  | d + 1, x => by
    unfold allF
    refine List.pairwise_append.2 ⟨rowF_up h x d (x + 1), allF_up h d (x + 1), fun a ha b hb => ?_⟩
    have ha' := (mem_rowF h x a d (x + 1)).1 ha
    have hb' := (mem_allF h b d (x + 1)).1 hb
    exact .inl (by omega)
theorem mem_pairs {h : Int → Int → Bool} {n : Int} {e : S71} : e ∈ pairs h n ↔ 0 ≤ e.f0 ∧ e.f0 < e.f1 ∧ e.f1 < n ∧ h e.f0 e.f1 = true := by
  unfold pairs
  rw [mem_allF]
  constructor
  · rintro ⟨h0, h1, h2, h3⟩
    exact ⟨h0, h1, by omega, h3⟩
  · rintro ⟨h0, h1, h2, h3⟩
    exact ⟨h0, h1, by omega, h3⟩
theorem pairs_up (h : Int → Int → Bool) (n : Int) : Up2 (pairs h n) := allF_up h _ _
/-- A good graph's pairs are those that are near. -/
theorem good_pairs {s : Int} {l : List S71} (h : Good s l) (hs : Sorted l) : l = pairs (near l) s := by
  refine up2_ext (sorted_up2 hs) (pairs_up _ _) (fun e => ?_)
  rw [mem_pairs]
  constructor
  · intro he
    have := good_mem h he
    exact ⟨this.1, this.2.1, this.2.2, (near_iff l _ _).2 (.inl he)⟩
  · rintro ⟨h0, h1, h2, h3⟩
    exact (near_lt h h1).1 h3
theorem l1Put_cm (l : List Int) (e : Int) (hl : l.length ≤ 1048577) (hu : Up l) (he : e ∉ l) : Cm (fun k => spec_l1Put.f k l e) (fun r => Up r ∧ (∀ x, x ∈ r ↔ x = e ∨ x ∈ l) ∧ r.length = l.length + 1) := by
  unfold spec_l1Put.f
  have fin : ∀ i : Int, 0 ≤ i → i ≤ l.length → (∀ x ∈ l.take i.toNat, x < e) → (∀ x ∈ l.drop i.toNat, e < x) → Up (l.take i.toNat ++ [e] ++ l.drop i.toNat) ∧ (∀ x, x ∈ l.take i.toNat ++ [e] ++ l.drop i.toNat ↔ x = e ∨ x ∈ l) ∧ (l.take i.toNat ++ [e] ++ l.drop i.toNat).length = l.length + 1 := by
    intro i h0 h1 ht hd
    have hs : l.take i.toNat ++ l.drop i.toNat = l := List.take_append_drop _ _
    have hu' := hu
    rw [← hs] at hu'
    have hp := List.pairwise_append.1 hu'
    refine ⟨?_, fun x => ?_, ?_⟩
    · refine List.pairwise_append.2 ⟨List.pairwise_append.2 ⟨hp.1, List.pairwise_singleton _ _, fun a ha b hb => ?_⟩, hp.2.1, fun a ha b hb => ?_⟩
      · rw [List.mem_singleton] at hb
        subst hb
        exact ht a ha
      · rcases List.mem_append.1 ha with ha | ha
        · exact hp.2.2 a ha b hb
        · rw [List.mem_singleton] at ha
          subst ha
          exact hd b hb
    · rw [List.mem_append, List.mem_append, List.mem_singleton]
      constructor
      · rintro ((h | h) | h)
        · exact .inr (List.mem_of_mem_take h)
        · exact .inl h
        · exact .inr (List.mem_of_mem_drop h)
      · rintro (h | h)
        · exact .inl (.inr h)
        · rw [← hs] at h
          rcases List.mem_append.1 h with h | h
          · exact .inl (.inl h)
          · exact .inr h
    · rw [List.length_append, List.length_append, List.length_take, List.length_drop, List.length_singleton]
      omega
  refine Cm.up (fun k i (_ : Unit) => spec_l1Put.l0 k l e i) l.length (fun i _ => 0 ≤ i ∧ ∀ x ∈ l.take i.toNat, x < e) _ ?_ 0 () (by omega) ⟨by omega, fun x hx => by cases hx⟩
  rintro i _ hi ⟨h0, ht⟩ ih
  by_cases h : i < l.length
  · have hne : rd l i ≠ e := fun e' => he (e' ▸ rd_mem l i h0 h)
    by_cases hb : rd l i < e
    · refine Cm.step (fun k => by simp (disch := omega) only [spec_l1Put.l0, w64 (i + 1), if_pos]; try rfl) (ih () h ⟨by omega, ?_⟩)
      rw [take_rd l i h0 h]
      intro x hx
      rcases List.mem_append.1 hx with hx | hx
      · exact ht x hx
      · rw [List.mem_singleton] at hx
        subst hx
        exact hb
    · have hd : ∀ x ∈ l.drop i.toNat, e < x := by
        intro x hx
        obtain ⟨j, hj, rfl⟩ := List.mem_iff_getElem.1 hx
        rw [List.getElem_drop]
        have hr := rd_eq l i.toNat (by omega)
        rw [Int.toNat_of_nonneg h0] at hr
        by_cases hj0 : j = 0
        · subst hj0
          simp only [Nat.add_zero]
          rw [← hr]
          omega
        · rw [List.length_drop] at hj
          have := List.pairwise_iff_getElem.1 hu i.toNat (i.toNat + j) (by omega) (by omega) (by omega)
          rw [← hr] at this
          omega
      have hF := fin i h0 (by omega) ht hd
      refine Cm.step (fun k => by simp (disch := omega) only [spec_l1Put.l0, if_pos h, if_pos h0, if_neg hb, if_neg hne, Option.bind_some, List.nil_append, List.length_nil, Nat.zero_add, List.length_append, List.length_take, List.length_drop, List.length_singleton, if_pos]; try rfl) (Cm.now hF)
  · have e1 : l.take i.toNat = l := take_all l i (by omega)
    have hd : ∀ x ∈ l.drop i.toNat, e < x := by
      rw [List.drop_eq_nil_of_le (by omega)]
      intro x hx
      cases hx
    have hF := fin i h0 (by omega) ht hd
    refine Cm.step (fun k => by simp (disch := omega) only [spec_l1Put.l0, Option.bind_some, if_neg h, if_pos h0, List.nil_append, List.length_nil, Nat.zero_add, List.length_append, List.length_take, List.length_drop, List.length_singleton, if_pos]; try rfl) (Cm.now hF)
theorem nbs_ev' (s : Int) (l : List S71) (hl : l.length ≤ 1048576) (h8 : s ≤ 8) (h0 : 0 ≤ s) (u : Int) : Ev (fun k => spec_l2Neighbors.f k s l u) ((V s).filter (near l u)) := by
  refine Cm.ev ?_
  unfold spec_l2Neighbors.f
  refine Cm.up (fun k i a => spec_l2Neighbors.l0 k u a i s l) s (fun i a => 0 ≤ i ∧ a = (V i).filter (near l u)) _ ?_ 0 [] (by omega) ⟨by omega, rfl⟩
  rintro i a hi ⟨i0, rfl⟩ ih
  have hlen : ((V i).filter (near l u)).length ≤ i.toNat := VF_len
  by_cases h : i < s
  · refine Cm.step (fun k => by simp (disch := omega) only [spec_l2Neighbors.l0, if_pos h, w64 (i + 1)]; try rfl) ?_
    refine Cm.bindE (near_ev s l u i hl) (Cm.ite (fun e => Cm.pos (by omega) (ih _ h ⟨by omega, ?_⟩)) (fun e => ih _ h ⟨by omega, ?_⟩))
    · rw [VF_succ i0, if_pos e]
    · rw [VF_succ i0, if_neg e, List.append_nil]
  · refine Cm.step (fun k => by simp only [spec_l2Neighbors.l0, if_neg h]; try rfl) (Cm.now ?_)
    rw [show i = s by omega]
/-- Near, or the same. -/
def cl (l : List S71) (u v : Int) : Bool := near l u v || u == v
theorem cl_symm (l : List S71) (u v : Int) : cl l u v = cl l v u := by
  unfold cl
  rw [near_symm l u v, Bool.eq_iff_iff, Bool.or_eq_true, Bool.or_eq_true, beq_iff_eq, beq_iff_eq]
  exact or_congr Iff.rfl eq_comm
theorem cl_self (l : List S71) (u : Int) : cl l u u = true := by unfold cl; simp
theorem cl_out {s : Int} {l : List S71} (hG : Gr.Good s l) {u v : Int} (hu : 0 ≤ u ∧ u < s) (h : cl l u v = true) : 0 ≤ v ∧ v < s := by
  unfold cl at h
  rw [Bool.or_eq_true, beq_iff_eq] at h
  rcases h with h | h
  · exact (near_in hG h).2.1
  · exact h ▸ hu
theorem ball_ev (s : Int) (l : List S71) (hl : l.length ≤ 1048576) (hG : Gr.Good s l) (u : Int) (hu : 0 ≤ u ∧ u < s) : Ev (fun k => spec_l2Ball.f k s l u) ((V s).filter (cl l u)) := by
  refine Cm.ev ?_
  unfold spec_l2Ball.f
  have hlen : ((V s).filter (near l u)).length ≤ s.toNat := VF_len
  have h8 := hG.2.1
  refine Cm.bindE (nbs_ev' s l hl h8 hG.1 u) (Cm.bind (l1Put_cm _ u (by omega) (filter_up (V_up _) _) (fun hm => ?_)) (fun r hr => Cm.now ?_))
  · exact (near_in hG (mem_VF.1 hm).2).2.2 rfl
  · refine up_ext hr.1 (filter_up (V_up _) _) (fun x => ?_)
    rw [hr.2.1, mem_VF, mem_VF]
    unfold cl
    rw [Bool.or_eq_true, beq_iff_eq]
    constructor
    · rintro (e | h)
      · rw [e]; exact ⟨hu, .inr rfl⟩
      · exact ⟨h.1, .inl h.2⟩
    · rintro ⟨h1, h2 | h2⟩
      · exact .inr ⟨h1, h2⟩
      · exact .inl h2.symm
/-- The masks of the net of a graph. -/
def Net (s : Int) (l : List S71) (m : List Int) : Prop := Masks s m ∧ ∀ u v : Int, 0 ≤ u → u < s → 0 ≤ v → v < 8 → bit (rd m u) v = near l u v
theorem closed_eq {s : Int} {l : List S71} {m : List Int} (h : Net s l m) (h8 : s ≤ 8) (x : Int) (hx : 0 ≤ x ∧ x < s) : ∃ c, impl_net_closed.f m x = some c ∧ M8 c ∧ ∀ v : Int, 0 ≤ v → v < 8 → bit c v = cl l x v := by
  have h1 := one_ok x hx.1 (by omega)
  have h2 := or_ok (rd m x) _ (h.1.2 x hx.1 hx.2) h1.1
  have hlen := h.1.1
  refine ⟨Go.bits .or .i64 (rd m x) (shl .i64 1 x), ?_, h2.1, fun v v0 v1 => ?_⟩
  · unfold impl_net_closed.f
    rw [if_pos hx.1, if_pos (by omega)]
  · rw [h2.2 v v0 (by omega), h1.2 v v0 (by omega), h.2 x v hx.1 hx.2 v0 v1]
    unfold cl
    congr 1
    rw [Bool.eq_iff_iff, beq_iff_eq, beq_iff_eq]
    exact eq_comm
/-- A mask that is a set of nodes. -/
def IsM (s : Int) (P : Int → Bool) (m : Int) : Prop := M8 m ∧ ∀ v : Int, 0 ≤ v → v < 8 → bit m v = (decide (v < s) && P v)
theorem has_ev (L : List Int) (x : Int) (hl : L.length ≤ 1048576) : Ev (fun k => spec_l1Has.f k L x) (decide (x ∈ L)) := by
  refine Cm.ev ?_
  unfold spec_l1Has.f
  refine Cm.up (fun k i (_ : Unit) => spec_l1Has.l0 k L x i) L.length (fun i _ => 0 ≤ i ∧ x ∉ L.take i.toNat) _ ?_ 0 () (by omega) ⟨by omega, by simp⟩
  rintro i _ hi ⟨h0, ht⟩ ih
  by_cases h : i < L.length
  · by_cases e : rd L i = x
    · refine Cm.step (fun k => by simp only [spec_l1Has.l0, if_pos h, if_pos h0, if_pos e]; try rfl) (Cm.now ?_)
      rw [decide_eq_true (e ▸ rd_mem L i h0 h)]
    · refine Cm.step (fun k => by simp (disch := omega) only [spec_l1Has.l0, if_pos h, if_pos h0, if_neg e, w64 (i + 1)]; try rfl) (ih () h ⟨by omega, ?_⟩)
      rw [take_rd L i h0 h, List.mem_append, List.mem_singleton]
      rintro (h' | h')
      · exact ht h'
      · exact e h'.symm
  · refine Cm.step (fun k => by simp only [spec_l1Has.l0, if_neg h]; try rfl) (Cm.now ?_)
    rw [take_all L i (by omega)] at ht
    rw [decide_eq_false ht]
theorem within_eq' (a lo hi : Int) : impl_within.f a lo hi = some (decide (lo ≤ a ∧ a ≤ hi)) := by
  unfold impl_within.f
  by_cases h : a ≥ lo
  · rw [if_pos h]
    simp [show lo ≤ a from h]
  · rw [if_neg h]
    simp [show ¬ lo ≤ a from h]
theorem allIn_ev (L : List Int) (lo hi : Int) (hl : L.length ≤ 1048576) : Cm (fun k => impl_allWithin.f k L lo hi) (fun b => b = true ↔ ∀ x ∈ L, lo ≤ x ∧ x ≤ hi) := by
  unfold impl_allWithin.f
  refine Cm.up (fun k i (_ : Unit) => impl_allWithin.l0 k lo hi L L.length i) L.length (fun i _ => 0 ≤ i ∧ ∀ x ∈ L.take i.toNat, lo ≤ x ∧ x ≤ hi) _ ?_ 0 () (by omega) ⟨by omega, by simp⟩
  rintro i _ hi' ⟨h0, ht⟩ ih
  by_cases h : i < L.length
  · by_cases e : lo ≤ rd L i ∧ rd L i ≤ hi
    · refine Cm.step (fun k => by simp (disch := omega) only [impl_allWithin.l0, if_pos h, if_pos h0, within_eq', Option.bind_some, decide_eq_true e, if_true, w64 (i + 1)]; try rfl) (ih () h ⟨by omega, ?_⟩)
      rw [take_rd L i h0 h]
      intro x hx
      rcases List.mem_append.1 hx with hx | hx
      · exact ht x hx
      · rw [List.mem_singleton] at hx
        rw [hx]
        exact e
    · refine Cm.step (fun k => by simp only [impl_allWithin.l0, if_pos h, if_pos h0, within_eq', Option.bind_some, decide_eq_false e, Bool.false_eq_true, if_false]; try rfl) (Cm.now ⟨fun h => Bool.noConfusion h, fun hA => (e (hA _ (rd_mem L i h0 h))).elim⟩)
  · refine Cm.step (fun k => by simp only [impl_allWithin.l0, if_neg h]; try rfl) (Cm.now ⟨fun _ => ?_, fun _ => rfl⟩)
    rw [take_all L i (by omega)] at ht
    exact ht
/-- y covers x in the set P. -/
def Cov (s : Int) (l : List S71) (P : Int → Bool) (x y : Int) : Prop := x ≠ y ∧ (0 ≤ y ∧ y < s) ∧ P y = true ∧ ∀ b : Int, 0 ≤ b → b < s → cl l x b = true → P b = true → cl l y b = true
theorem covers_cm (s : Int) (l : List S71) (hl : l.length ≤ 1048576) (hG : Gr.Good s l) (L : List Int) (hL : L.length ≤ 1048576) (hm : ∀ x ∈ L, 0 ≤ x ∧ x < s) (P : Int → Bool) (hP : ∀ b : Int, 0 ≤ b → b < s → (b ∈ L ↔ P b = true)) (x y : Int) (hx : 0 ≤ x ∧ x < s) :
    Cm (fun k => spec_l3Covers.f k s l L x y) (fun b => b = true ↔ Cov s l P x y) := by
  unfold spec_l3Covers.f
  have h8 := hG.2.1
  refine Cm.bindE (ball_ev s l hl hG x hx) ?_
  obtain ⟨B, hB⟩ : ∃ B, B = (V s).filter (cl l x) := ⟨_, rfl⟩
  have hlen : B.length ≤ s.toNat := by rw [hB]; exact VF_len
  have hmB : ∀ b, b ∈ B ↔ (0 ≤ b ∧ b < s) ∧ cl l x b = true := fun b => by rw [hB]; exact mem_VF
  rw [← hB]
  clear hB
  refine Cm.up (fun k i (_ : Unit) => spec_l3Covers.l0 k L x y B i s l) B.length (fun i _ => 0 ≤ i ∧ ∀ b ∈ B.take i.toNat, P b = true → cl l y b = true) _ ?_ 0 () (by omega) ⟨by omega, by simp⟩
  rintro i _ hi ⟨h0, ht⟩ ih
  by_cases h : i < B.length
  · have hb := (hmB _).1 (rd_mem B i h0 h)
    have go : (P (rd B i) = true → cl l y (rd B i) = true) → Cm (fun k => spec_l3Covers.l0 k L x y B (i + 1) s l) (fun b => b = true ↔ Cov s l P x y) := fun hg => ih () h ⟨by omega, fun b hb' => by
      rw [take_rd B i h0 h] at hb'
      rcases List.mem_append.1 hb' with hb' | hb'
      · exact ht b hb'
      · rw [List.mem_singleton] at hb'
        rw [hb']
        exact hg⟩
    refine Cm.step (fun k => by simp (disch := omega) only [spec_l3Covers.l0, if_pos h, if_pos h0, w64 (i + 1)]; try rfl) ?_
    refine Cm.bindE (has_ev L (rd B i) hL) (Cm.ite (fun e => ?_) (fun e => ?_))
    · have hPb := (hP _ hb.1.1 hb.1.2).1 (of_decide_eq_true e)
      refine Cm.ite (fun e1 => go (fun _ => by rw [e1]; exact cl_self l y)) (fun e1 => Cm.bindE (near_ev s l (rd B i) y hl) (Cm.ite (fun e2 => go (fun _ => ?_)) (fun e2 => Cm.now ⟨fun h => Bool.noConfusion h, fun hC => ?_⟩)))
      · rw [cl_symm]
        unfold cl
        rw [e2]
        rfl
      · have := hC.2.2.2 (rd B i) hb.1.1 hb.1.2 hb.2 hPb
        rw [cl_symm] at this
        unfold cl at this
        rw [Bool.or_eq_true, beq_iff_eq] at this
        rcases this with h' | h'
        · exact (e2 h').elim
        · exact (e1 h').elim
    · refine go (fun hPb => (e (decide_eq_true ((hP _ hb.1.1 hb.1.2).2 hPb))).elim)
  · have hall : ∀ b ∈ B, P b = true → cl l y b = true := by rw [take_all B i (by omega)] at ht; exact ht
    refine Cm.step (fun k => by simp only [spec_l3Covers.l0, if_neg h]; try rfl) ?_
    refine Cm.ite (fun e => Cm.now ⟨fun h => Bool.noConfusion h, fun hC => (hC.1 e).elim⟩) (fun e => Cm.bindE (has_ev L y hL) (Cm.now ?_))
    rw [decide_eq_true_eq]
    constructor
    · intro hy
      exact ⟨e, hm y hy, (hP y (hm y hy).1 (hm y hy).2).1 hy, fun b b0 b1 hb hPb => hall b ((hmB b).2 ⟨⟨b0, b1⟩, hb⟩) hPb⟩
    · intro hC
      exact (hP y hC.2.1.1 hC.2.1.2).2 hC.2.2.1
open Classical in
/-- The covers of x in P, in order. -/
noncomputable def covs (s : Int) (l : List S71) (P : Int → Bool) (x : Int) : List Int := (V s).filter (fun y => decide (Cov s l P x y))
open Classical in
theorem mem_covs {s : Int} {l : List S71} {P : Int → Bool} {x y : Int} : y ∈ covs s l P x ↔ Cov s l P x y := by
  unfold covs
  rw [mem_VF, decide_eq_true_eq]
  exact ⟨fun h => h.2, fun h => ⟨h.2.1, h⟩⟩
theorem covs_up (s : Int) (l : List S71) (P : Int → Bool) (x : Int) : Up (covs s l P x) := filter_up (V_up _) _
theorem covs_len (s : Int) (l : List S71) (P : Int → Bool) (x : Int) : (covs s l P x).length ≤ s.toNat := VF_len
theorem covs_congr {s : Int} {l : List S71} {P Q : Int → Bool} (h : ∀ b : Int, 0 ≤ b → b < s → P b = Q b) (x : Int) : covs s l P x = covs s l Q x := by
  refine up_ext (covs_up _ _ _ _) (covs_up _ _ _ _) (fun y => ?_)
  rw [mem_covs, mem_covs]
  unfold Cov
  constructor
  · rintro ⟨h1, h2, h3, h4⟩
    exact ⟨h1, h2, by rw [← h y h2.1 h2.2]; exact h3, fun b b0 b1 hc hq => h4 b b0 b1 hc (by rw [h b b0 b1]; exact hq)⟩
  · rintro ⟨h1, h2, h3, h4⟩
    exact ⟨h1, h2, by rw [h y h2.1 h2.2]; exact h3, fun b b0 b1 hc hq => h4 b b0 b1 hc (by rw [← h b b0 b1]; exact hq)⟩
theorem covers_impl (s : Int) (l : List S71) (hG : Gr.Good s l) (r : List Int) (hN : Net s l r) (P : Int → Bool) (m : Int) (hM : IsM s P m) (x : Int) (hx : 0 ≤ x ∧ x < s) : Ev (fun k => impl_net_covers.f k r m x) (covs s l P x) := by
  refine Cm.ev ?_
  unfold impl_net_covers.f
  have h8 := hG.2.1
  have h1 := one_ok x hx.1 (by omega)
  have h2 := not_ok m _ hM.1 h1.1
  refine Cm.pos hx.1 (Cm.bindE (setP_ev _ h2.1 s h8 (fun v => P v && !(v == x)) (fun v v0 v1 => by rw [h2.2 v v0 (by omega), hM.2 v v0 v1, h1.2 v v0 (by omega), Bool.and_assoc])) ?_)
  obtain ⟨B, hB⟩ : ∃ B, B = (V s).filter (fun v => P v && !(v == x)) := ⟨_, rfl⟩
  have hlen : B.length ≤ s.toNat := by rw [hB]; exact VF_len
  have hmB : ∀ b, b ∈ B ↔ (0 ≤ b ∧ b < s) ∧ P b = true ∧ b ≠ x := fun b => by rw [hB, mem_VF, Bool.and_eq_true]; simp
  have hup : Up B := by rw [hB]; exact filter_up (V_up _) _
  rw [← hB]
  clear hB
  obtain ⟨cx, ex, hcx, hbx⟩ := closed_eq hN h8 x hx
  have h3 := and_ok cx m hcx hM.1
  have key : ∀ y : Int, y ∈ B → ∃ cy, impl_net_closed.f r y = some cy ∧ (Go.bits .andNot .i64 (Go.bits .and .i64 cx m) cy = 0 ↔ Cov s l P x y) := fun y hy => by
    have hy' := (hmB y).1 hy
    obtain ⟨cy, ey, hcy, hby⟩ := closed_eq hN h8 y hy'.1
    have h4 := not_ok _ cy h3.1 hcy
    refine ⟨cy, ey, ?_⟩
    constructor
    · intro e
      refine ⟨fun e => hy'.2.2 e.symm, hy'.1, hy'.2.1, fun b b0 b1 hb hPb => ?_⟩
      have := h4.2 b b0 (by omega)
      rw [e, zero_ok.2 b b0 (by omega), h3.2 b b0 (by omega), hbx b b0 (by omega), hM.2 b b0 (by omega), hb, hPb, decide_eq_true b1, hby b b0 (by omega)] at this
      simpa using this
    · intro hC
      refine mask_ext _ _ h4.1 zero_ok.1 (fun b b0 b1 => ?_)
      rw [h4.2 b b0 (by omega), h3.2 b b0 (by omega), hbx b b0 b1, hM.2 b b0 b1, hby b b0 b1, zero_ok.2 b b0 (by omega)]
      by_cases hbs : b < s
      · by_cases hb : cl l x b = true
        · by_cases hPb : P b = true
          · rw [hC.2.2.2 b b0 hbs hb hPb]; simp
          · rw [Bool.eq_false_iff.2 hPb]; simp
        · rw [Bool.eq_false_iff.2 hb]; simp
      · rw [decide_eq_false hbs]; simp
  refine Cm.up (fun k i a => impl_net_covers.l0 k m x a B B.length i r) B.length (fun i a => 0 ≤ i ∧ (a.length : Int) ≤ i ∧ Up a ∧ ∀ y, y ∈ a ↔ y ∈ B.take i.toNat ∧ Cov s l P x y) _ ?_ 0 [] (by omega) ⟨by omega, by simp, List.Pairwise.nil, by simp⟩
  rintro i a hi ⟨h0, hal, hau, ham⟩ ih
  by_cases h : i < B.length
  · obtain ⟨cy, ey, hcy⟩ := key _ (rd_mem B i h0 h)
    by_cases e : Go.bits .andNot .i64 (Go.bits .and .i64 cx m) cy = 0
    · refine Cm.step (fun k => by simp (disch := omega) only [impl_net_covers.l0, if_pos h, if_pos h0, ex, ey, Option.bind_some, if_pos e, w64 (i + 1), if_pos]; try rfl) (ih _ h ⟨by omega, by rw [List.length_append, List.length_singleton]; omega, ?_, fun y => ?_⟩)
      · refine List.pairwise_append.2 ⟨hau, List.pairwise_singleton _ _, fun b hb c hc => ?_⟩
        rw [List.mem_singleton] at hc
        subst hc
        have := ((ham b).1 hb).1
        obtain ⟨j, hj, hje⟩ := List.mem_iff_getElem.1 this
        rw [List.getElem_take] at hje
        rw [List.length_take] at hj
        rw [← hje, ← rd_eq B j (by omega)]
        exact up_rd hup j i (by omega) (by omega) h
      · rw [List.mem_append, List.mem_singleton, ham, take_rd B i h0 h, List.mem_append, List.mem_singleton]
        constructor
        · rintro (⟨h5, h6⟩ | h5)
          · exact ⟨.inl h5, h6⟩
          · rw [h5]; exact ⟨.inr rfl, hcy.1 e⟩
        · rintro ⟨h5 | h5, h6⟩
          · exact .inl ⟨h5, h6⟩
          · exact .inr h5
    · refine Cm.step (fun k => by simp (disch := omega) only [impl_net_covers.l0, if_pos h, if_pos h0, ex, ey, Option.bind_some, if_neg e, w64 (i + 1)]; try rfl) (ih _ h ⟨by omega, by omega, hau, fun y => ?_⟩)
      rw [ham, take_rd B i h0 h, List.mem_append, List.mem_singleton]
      constructor
      · rintro ⟨h5, h6⟩
        exact ⟨.inl h5, h6⟩
      · rintro ⟨h5 | h5, h6⟩
        · exact ⟨h5, h6⟩
        · rw [h5] at h6; exact (e (hcy.2 h6)).elim
  · refine Cm.step (fun k => by simp only [impl_net_covers.l0, if_neg h]; try rfl) (Cm.now ?_)
    refine up_ext hau (covs_up _ _ _ _) (fun y => ?_)
    rw [ham, mem_covs, take_all B i (by omega), hmB]
    exact ⟨fun h => h.2, fun h => ⟨⟨h.2.1, h.2.2.1, fun e => h.1 e.symm⟩, h⟩⟩
theorem bits_ev (s m : Int) (h0 : 0 ≤ s) (h8 : s ≤ 8) : Ev (fun k => spec_l2Bits.f k s m) ((V s).filter (bit m)) := by
  refine Cm.ev ?_
  unfold spec_l2Bits.f
  refine Cm.up (fun k i a => spec_l2Bits.l0 k s m a i) s (fun i a => 0 ≤ i ∧ a = (V i).filter (bit m)) _ ?_ 0 [] (by omega) ⟨by omega, rfl⟩
  rintro i a hi ⟨i0, rfl⟩ ih
  have hlen : ((V i).filter (bit m)).length ≤ i.toNat := VF_len
  by_cases h : i < s
  · by_cases e : Go.bits .and .i64 (shr .i64 m i) 1 = 1
    · refine Cm.step (fun k => by simp (disch := omega) only [spec_l2Bits.l0, if_pos h, if_pos i0, if_pos e, w64 (i + 1), if_pos]; try rfl) (ih _ h ⟨by omega, ?_⟩)
      rw [VF_succ i0, if_pos (show bit m i = true by unfold bit; rw [e]; rfl)]
    · refine Cm.step (fun k => by simp (disch := omega) only [spec_l2Bits.l0, if_pos h, if_pos i0, if_neg e, w64 (i + 1)]; try rfl) (ih _ h ⟨by omega, ?_⟩)
      rw [VF_succ i0, if_neg (show ¬ bit m i = true by unfold bit; rw [beq_iff_eq]; exact e), List.append_nil]
  · refine Cm.step (fun k => by simp only [spec_l2Bits.l0, if_neg h]; try rfl) (Cm.now ?_)
    rw [show i = s by omega]
theorem all_ev (s : Int) (l : List S71) (h0 : 0 ≤ s) (h8 : s ≤ 8) : Ev (fun k => spec_l2All.f k s l) ((V s).filter (fun _ => true)) := by
  refine Cm.ev ?_
  unfold spec_l2All.f
  have hf := full_ok s h0 h8
  refine Cm.pos h0 (Cm.bindE (bits_ev s _ h0 h8) (Cm.now ?_))
  exact VF_congr (fun x x0 x1 => by rw [hf.2 x x0 (by omega), decide_eq_true x1])
theorem mask_all {s : Int} (h0 : 0 ≤ s) (h8 : s ≤ 8) : IsM s (fun _ => true) (wrap64 (shl .i64 1 s - 1)) := by
  have h := full_ok s h0 h8
  exact ⟨h.1, fun v v0 v1 => by rw [h.2 v v0 (by omega), Bool.and_true]⟩
/-- A set without a node. -/
def without (P : Int → Bool) (x : Int) (y : Int) : Bool := P y && !(y == x)
theorem mask_without {s : Int} {P : Int → Bool} {m x : Int} (h : IsM s P m) (hx : 0 ≤ x ∧ x < 8) : IsM s (without P x) (Go.bits .andNot .i64 m (shl .i64 1 x)) := by
  have h1 := one_ok x hx.1 hx.2
  have h2 := not_ok m _ h.1 h1.1
  refine ⟨h2.1, fun v v0 v1 => ?_⟩
  rw [h2.2 v v0 (by omega), h.2 v v0 v1, h1.2 v v0 (by omega), Bool.and_assoc]
  rfl
theorem without_ev (s x : Int) (P : Int → Bool) (h8 : s ≤ 8) : Ev (fun k => spec_l2Without.f k ((V s).filter P) x) ((V s).filter (without P x)) := by
  refine Cm.ev ?_
  unfold spec_l2Without.f
  obtain ⟨L, hL⟩ : ∃ L, L = (V s).filter P := ⟨_, rfl⟩
  have hlen : L.length ≤ s.toNat := by rw [hL]; exact VF_len
  have hfin : L.filter (fun y => !(y == x)) = (V s).filter (without P x) := by rw [hL, List.filter_filter]; exact List.filter_congr (fun y _ => Bool.and_comm _ _)
  rw [← hL]
  refine Cm.up (fun k i a => spec_l2Without.l0 k L x a i) L.length (fun i a => 0 ≤ i ∧ a = (L.take i.toNat).filter (fun y => !(y == x))) _ ?_ 0 [] (by omega) ⟨by omega, rfl⟩
  rintro i a hi ⟨h0, rfl⟩ ih
  have hal : ((L.take i.toNat).filter (fun y => !(y == x))).length ≤ L.length := Nat.le_trans (List.length_filter_le _ _) (by rw [List.length_take]; omega)
  by_cases h : i < L.length
  · by_cases e : rd L i = x
    · refine Cm.step (fun k => by simp (disch := omega) only [spec_l2Without.l0, if_pos h, if_pos h0, if_pos e, w64 (i + 1)]; try rfl) (ih _ h ⟨by omega, ?_⟩)
      rw [take_rd L i h0 h, List.filter_append, List.filter_cons, e]
      simp
    · refine Cm.step (fun k => by simp (disch := omega) only [spec_l2Without.l0, if_pos h, if_pos h0, if_neg e, w64 (i + 1), if_pos]; try rfl) (ih _ h ⟨by omega, ?_⟩)
      have e' : (rd L i == x) = false := by simpa using e
      rw [take_rd L i h0 h, List.filter_append, List.filter_cons, e']
      rfl
  · refine Cm.step (fun k => by simp only [spec_l2Without.l0, if_neg h]; try rfl) (Cm.now ?_)
    rw [take_all L i (by omega), hfin]
theorem cover_ev (s : Int) (l : List S71) (hl : l.length ≤ 1048576) (hG : Gr.Good s l) (L : List Int) (hL : L.length ≤ 1048576) (hu : Up L) (hm : ∀ x ∈ L, 0 ≤ x ∧ x < s) (P : Int → Bool) (hP : ∀ b : Int, 0 ≤ b → b < s → (b ∈ L ↔ P b = true)) (x : Int) (hx : 0 ≤ x ∧ x < s) :
    Ev (fun k => spec_l3Cover.f k s l L x) ((covs s l P x).headD (-1)) := by
  refine Cm.ev ?_
  unfold spec_l3Cover.f
  refine Cm.up (fun k i (_ : Unit) => spec_l3Cover.l0 k L x i s l) L.length (fun i _ => 0 ≤ i ∧ ∀ b ∈ L.take i.toNat, ¬ Cov s l P x b) _ ?_ 0 () (by omega) ⟨by omega, by simp⟩
  rintro i _ hi ⟨h0, ht⟩ ih
  by_cases h : i < L.length
  · refine Cm.step (fun k => by simp (disch := omega) only [spec_l3Cover.l0, if_pos h, if_pos h0, w64 (i + 1)]; try rfl) ?_
    refine Cm.bind (covers_cm s l hl hG L hL hm P hP x (rd L i) hx) (fun b hb => Cm.ite (fun e => Cm.now ?_) (fun e => ih () h ⟨by omega, fun b' hb' => ?_⟩))
    · have hc := mem_covs.2 (hb.1 e)
      cases hcs : covs s l P x with
      | nil => rw [hcs] at hc; cases hc
      | cons a t =>
        show rd L i = a
        rw [hcs] at hc
        have ha : a ∈ covs s l P x := by rw [hcs]; exact List.mem_cons_self
        have haC := mem_covs.1 ha
        have hup := covs_up s l P x
        rw [hcs] at hup
        rcases List.mem_cons.1 hc with e' | e'
        · exact e'
        · have hlt := (List.pairwise_cons.1 hup).1 _ e'
          obtain ⟨j, j0, j1, j2⟩ := mem_rd ((hP a haC.2.1.1 haC.2.1.2).2 haC.2.2.1)
          by_cases hji : j < i
          · refine (ht a ?_ haC).elim
            rw [← j2, List.mem_iff_getElem]
            exact ⟨j.toNat, by rw [List.length_take]; omega, by rw [List.getElem_take, ← rd_eq L j.toNat (by omega), Int.toNat_of_nonneg j0]⟩
          · by_cases ej : j = i
            · rw [← j2, ej] at hlt; omega
            · have := up_rd hu i j h0 (by omega) j1
              omega
    · rw [take_rd L i h0 h] at hb'
      rcases List.mem_append.1 hb' with hb' | hb'
      · exact ht b' hb'
      · rw [List.mem_singleton] at hb'
        rw [hb']
        exact fun hC => e (hb.2 hC)
  · refine Cm.step (fun k => by simp only [spec_l3Cover.l0, if_neg h]; try rfl) (Cm.now ?_)
    rw [take_all L i (by omega)] at ht
    cases hcs : covs s l P x with
    | nil => rfl
    | cons a t =>
      have ha : a ∈ covs s l P x := by rw [hcs]; exact List.mem_cons_self
      have haC := mem_covs.1 ha
      exact (ht a ((hP a haC.2.1.1 haC.2.1.2).2 haC.2.2.1) haC).elim
/-- Has x a cover in P? -/
noncomputable def hasC (s : Int) (l : List S71) (P : Int → Bool) (x : Int) : Bool := !(covs s l P x).isEmpty
/-- The corners in P, in order. -/
noncomputable def corn (s : Int) (l : List S71) (P : Int → Bool) : List Int := (V s).filter (fun x => P x && hasC s l P x)
theorem hasC_iff {s : Int} {l : List S71} {P : Int → Bool} {x : Int} : hasC s l P x = true ↔ ∃ y t, covs s l P x = y :: t := by
  unfold hasC
  cases covs s l P x with
  | nil => simp
  | cons y t => simp
theorem head_ge {s : Int} {l : List S71} {P : Int → Bool} {x : Int} : (covs s l P x).headD (-1) ≥ 0 ↔ hasC s l P x = true := by
  rw [hasC_iff]
  cases h : covs s l P x with
  | nil => simp
  | cons y t =>
    have : y ∈ covs s l P x := by rw [h]; exact List.mem_cons_self
    have := (mem_covs.1 this).2.1.1
    simp only [List.headD_cons]
    exact ⟨fun _ => ⟨y, t, rfl⟩, fun _ => this⟩
theorem ev_all {α β : Type} (g : Nat → α → Option β) (h : α → β) : ∀ L : List α, (∀ x ∈ L, Ev (fun k => g k x) (h x)) → ∃ K, ∀ k, K ≤ k → ∀ x ∈ L, g k x = some (h x)
  | [], _ => ⟨0, fun _ _ x hx => by cases hx⟩
  | a :: L, hL => by
    obtain ⟨K1, h1⟩ := hL a List.mem_cons_self
    obtain ⟨K2, h2⟩ := ev_all g h L (fun x hx => hL x (List.mem_cons_of_mem _ hx))
    dsimp only at h1
    refine ⟨max K1 K2, fun k hk x hx => ?_⟩
    rcases List.mem_cons.1 hx with e | e
    · rw [e]; exact h1 k (by omega)
    · exact h2 k (by omega) x e
theorem corners_spec (s : Int) (l : List S71) (hl : l.length ≤ 1048576) (hG : Gr.Good s l) (P : Int → Bool) : Ev (fun k => spec_l3Corners.f k s l ((V s).filter P)) (corn s l P) := by
  refine Cm.ev ?_
  unfold spec_l3Corners.f
  have h8 := hG.2.1
  obtain ⟨L, hL⟩ : ∃ L, L = (V s).filter P := ⟨_, rfl⟩
  have hlen : L.length ≤ s.toNat := by rw [hL]; exact VF_len
  have hmL : ∀ b, b ∈ L ↔ (0 ≤ b ∧ b < s) ∧ P b = true := fun b => by rw [hL]; exact mem_VF
  have hup : Up L := by rw [hL]; exact filter_up (V_up _) _
  have hfin : L.filter (hasC s l P) = corn s l P := by rw [hL]; unfold corn; rw [List.filter_filter]; exact List.filter_congr (fun x _ => Bool.and_comm _ _)
  rw [← hL]
  refine Cm.up (fun k i a => spec_l3Corners.l0 k L a i s l) L.length (fun i a => 0 ≤ i ∧ a = (L.take i.toNat).filter (hasC s l P)) _ ?_ 0 [] (by omega) ⟨by omega, rfl⟩
  rintro i a hi ⟨h0, rfl⟩ ih
  have hal : ((L.take i.toNat).filter (hasC s l P)).length ≤ L.length := Nat.le_trans (List.length_filter_le _ _) (by rw [List.length_take]; omega)
  by_cases h : i < L.length
  · have hm := (hmL _).1 (rd_mem L i h0 h)
    refine Cm.step (fun k => by simp (disch := omega) only [spec_l3Corners.l0, if_pos h, if_pos h0, w64 (i + 1)]; try rfl) ?_
    refine Cm.bindE (cover_ev s l hl hG L (by omega) hup (fun x hx => ((hmL x).1 hx).1) P (fun b b0 b1 => by rw [hmL]; exact ⟨fun h => h.2, fun h => ⟨⟨b0, b1⟩, h⟩⟩) (rd L i) hm.1) (Cm.ite (fun e => Cm.pos (by omega) (ih _ h ⟨by omega, ?_⟩)) (fun e => ih _ h ⟨by omega, ?_⟩))
    · rw [take_rd L i h0 h, List.filter_append, List.filter_cons, head_ge.1 e]
      rfl
    · rw [take_rd L i h0 h, List.filter_append, List.filter_cons, Bool.eq_false_iff.2 (fun e' => e (head_ge.2 e'))]
      simp
  · refine Cm.step (fun k => by simp only [spec_l3Corners.l0, if_neg h]; try rfl) (Cm.now ?_)
    rw [take_all L i (by omega), hfin]
theorem corners_impl (s : Int) (l : List S71) (hG : Gr.Good s l) (r : List Int) (hN : Net s l r) (P : Int → Bool) (m : Int) (hM : IsM s P m) : Ev (fun k => impl_net_corners.f k r m) (corn s l P) := by
  refine Cm.ev ?_
  unfold impl_net_corners.f
  have h8 := hG.2.1
  refine Cm.bindE (setP_ev m hM.1 s h8 P hM.2) ?_
  obtain ⟨L, hL⟩ : ∃ L, L = (V s).filter P := ⟨_, rfl⟩
  have hlen : L.length ≤ s.toNat := by rw [hL]; exact VF_len
  have hmL : ∀ b, b ∈ L ↔ (0 ≤ b ∧ b < s) ∧ P b = true := fun b => by rw [hL]; exact mem_VF
  have hfin : L.filter (hasC s l P) = corn s l P := by rw [hL]; unfold corn; rw [List.filter_filter]; exact List.filter_congr (fun x _ => Bool.and_comm _ _)
  rw [← hL]
  obtain ⟨K, hK⟩ := ev_all (fun k x => impl_net_corners_1.f k x r m) (fun x => (((covs s l P x).length : Int) == 0)) L (fun x hx => by
    refine Cm.ev ?_
    unfold impl_net_corners_1.f
    exact Cm.bindE (covers_impl s l hG r hN P m hM x ((hmL x).1 hx).1) (Cm.now rfl))
  refine ⟨corn s l P, ⟨K, fun k hk => ?_⟩, rfl⟩
  have e1 : (L.all fun x => (impl_net_corners_1.f k x r m).isSome) = true := List.all_eq_true.2 (fun x hx => by rw [hK k hk x hx]; rfl)
  have e2 : (L.filter fun x => !(impl_net_corners_1.f k x r m).getD false) = L.filter (hasC s l P) := List.filter_congr (fun x hx => by
    rw [hK k hk x hx, Option.getD_some]
    unfold hasC
    cases covs s l P x with
    | nil => rfl
    | cons y t =>
      have : (((y :: t).length : Int) == 0) = false := by rw [beq_eq_false_iff_ne, List.length_cons]; omega
      rw [this]
      rfl)
  dsimp only
  rw [if_pos ⟨by omega, e1⟩, e2, hfin]
/-- The stripping from P on, n steps at most. -/
noncomputable def stripF (s : Int) (l : List S71) : Nat → (Int → Bool) → List S71 × (Int → Bool)
  | 0, P => ([], P)
  | n + 1, P => match corn s l P with
    | [] => ([], P)
    | x :: _ => ((⟨x, (covs s l P x).headD (-1)⟩ : S71) :: (stripF s l n (without P x)).1, (stripF s l n (without P x)).2)
theorem stripF_nil {s : Int} {l : List S71} {P : Int → Bool} (h : corn s l P = []) : ∀ n, stripF s l n P = ([], P)
  | 0 => rfl
  | n + 1 => by unfold stripF; rw [h]
theorem stripF_cons {s : Int} {l : List S71} {P : Int → Bool} {x : Int} {t : List Int} (h : corn s l P = x :: t) (n : Nat) : stripF s l (n + 1) P = ((⟨x, (covs s l P x).headD (-1)⟩ : S71) :: (stripF s l n (without P x)).1, (stripF s l n (without P x)).2) := by
  conv => lhs; unfold stripF
  rw [h]
theorem corn_head {s : Int} {l : List S71} {P : Int → Bool} {x : Int} {t : List Int} (h : corn s l P = x :: t) : (0 ≤ x ∧ x < s) ∧ P x = true ∧ hasC s l P x = true := by
  have : x ∈ corn s l P := by rw [h]; exact List.mem_cons_self
  unfold corn at this
  rw [mem_VF, Bool.and_eq_true] at this
  exact ⟨this.1, this.2⟩
theorem without_len {s : Int} {P : Int → Bool} {x : Int} (hx : 0 ≤ x ∧ x < s) (hP : P x = true) : ((V s).filter (without P x)).length + 1 ≤ ((V s).filter P).length := by
  refine nodup_le (a := x :: (V s).filter (without P x)) (List.nodup_cons.2 ⟨fun h => ?_, up_nodup (filter_up (V_up _) _)⟩) (fun y hy => ?_)
  · have := (mem_VF.1 h).2
    unfold without at this
    simp at this
  · rcases List.mem_cons.1 hy with e | e
    · rw [e]; exact mem_VF.2 ⟨hx, hP⟩
    · have := mem_VF.1 e
      unfold without at this
      rw [Bool.and_eq_true] at this
      exact mem_VF.2 ⟨this.1, this.2.1⟩
theorem corn_empty {s : Int} {l : List S71} {P : Int → Bool} (h : ((V s).filter P).length = 0) : corn s l P = [] := by
  cases hc : corn s l P with
  | nil => rfl
  | cons x t =>
    have := corn_head hc
    have hm : x ∈ (V s).filter P := mem_VF.2 ⟨this.1, this.2.1⟩
    rw [List.length_eq_zero_iff.1 h] at hm
    cases hm
theorem rd_head (x : Int) (t : List Int) : rd (x :: t) 0 = x := rfl
theorem strip_spec (s : Int) (l : List S71) (hl : l.length ≤ 1048576) (hG : Gr.Good s l) : ∀ (n : Nat) (P : Int → Bool) (a : List S71), ((V s).filter P).length ≤ n → a.length + n ≤ 1000 →
    Ev (fun k => spec_l3Strip.l0 k a ((V s).filter P) (corn s l P) s l) (a ++ (stripF s l n P).1, (V s).filter (stripF s l n P).2) := by
  have h8 := hG.2.1
  have fin : ∀ (n : Nat) (P : Int → Bool) (a : List S71), corn s l P = [] → Ev (fun k => spec_l3Strip.l0 k a ((V s).filter P) (corn s l P) s l) (a ++ (stripF s l n P).1, (V s).filter (stripF s l n P).2) := fun n P a hc => by
    refine Cm.ev ?_
    rw [stripF_nil hc, hc]
    refine Cm.step (fun k => by simp only [spec_l3Strip.l0]; try rfl) ?_
    refine Cm.neg (by simp) (Cm.now ?_)
    rw [List.append_nil]
  intro n
  induction n with
  | zero => exact fun P a hP _ => fin 0 P a (corn_empty (by omega))
  | succ n ih =>
    intro P a hP ha
    cases hc : corn s l P with
    | nil => rw [← hc]; exact fin _ P a hc
    | cons x t =>
      have hx := corn_head hc
      have hw := without_len hx.1 hx.2.1
      have hlen : ((V s).filter P).length ≤ s.toNat := VF_len
      refine Cm.ev ?_
      rw [stripF_cons hc]
      refine Cm.step (fun k => by simp only [spec_l3Strip.l0, rd_head]; try rfl) ?_
      refine Cm.pos (by rw [List.length_cons]; omega) (Cm.pos (by rw [List.length_cons]; omega) (Cm.bindE (cover_ev s l hl hG _ (by omega) (filter_up (V_up _) _) (fun y hy => (mem_VF.1 hy).1) P (fun b b0 b1 => by rw [mem_VF]; exact ⟨fun h => h.2, fun h => ⟨⟨b0, b1⟩, h⟩⟩) x hx.1) (Cm.pos (by omega) (Cm.bindE (without_ev s x P h8) (Cm.bindE (corners_spec s l hl hG (without P x)) (Cm.of (ih (without P x) (a ++ [(⟨x, (covs s l P x).headD (-1)⟩ : S71)]) (by omega) (by rw [List.length_append, List.length_singleton]; omega)) ?_))))))
      rw [List.append_assoc]
      rfl
theorem strip_impl (s : Int) (l : List S71) (hG : Gr.Good s l) (r : List Int) (hN : Net s l r) : ∀ (n : Nat) (P : Int → Bool) (m : Int) (a : List S71), IsM s P m → ((V s).filter P).length ≤ n → a.length + n ≤ 1000 →
    Cm (fun k => impl_net_stripping.l0 k a m r) (fun x => x.1 = a ++ (stripF s l n P).1 ∧ IsM s (stripF s l n P).2 x.2) := by
  have h8 := hG.2.1
  have fin : ∀ (n : Nat) (P : Int → Bool) (m : Int) (a : List S71), IsM s P m → corn s l P = [] → Cm (fun k => impl_net_stripping.l0 k a m r) (fun x => x.1 = a ++ (stripF s l n P).1 ∧ IsM s (stripF s l n P).2 x.2) := fun n P m a hM hc => by
    rw [stripF_nil hc]
    refine Cm.step (fun k => by simp only [impl_net_stripping.l0]; try rfl) ?_
    refine Cm.bindE (corners_impl s l hG r hN P m hM) ?_
    rw [hc]
    exact Cm.pos rfl (Cm.now ⟨(List.append_nil a).symm, hM⟩)
  intro n
  induction n with
  | zero => exact fun P m a hM hP _ => fin 0 P m a hM (corn_empty (by omega))
  | succ n ih =>
    intro P m a hM hP ha
    cases hc : corn s l P with
    | nil => exact fin _ P m a hM hc
    | cons x t =>
      have hx := corn_head hc
      have hw := without_len hx.1 hx.2.1
      obtain ⟨y, u, hy⟩ := hasC_iff.1 hx.2.2
      rw [stripF_cons hc]
      refine Cm.step (fun k => by simp only [impl_net_stripping.l0]; try rfl) ?_
      refine Cm.bindE (corners_impl s l hG r hN P m hM) ?_
      rw [hc]
      refine Cm.neg (by rw [List.length_cons]; omega) (Cm.pos (by rw [List.length_cons]; omega) (Cm.bindE (covers_impl s l hG r hN P m hM x hx.1) ?_))
      rw [hy]
      refine Cm.pos (by rw [List.length_cons]; omega) (Cm.pos (by omega) (Cm.pos hx.1.1 (Cm.mono (ih (without P x) _ (a ++ [(⟨x, y⟩ : S71)]) (mask_without hM ⟨hx.1.1, by omega⟩) (by omega) (by rw [List.length_append, List.length_singleton]; omega)) (fun z hz => ⟨?_, hz.2⟩))))
      rw [hz.1, List.append_assoc]
      rfl
theorem strip_both (s : Int) (l : List S71) (hl : l.length ≤ 1048576) (hG : Gr.Good s l) (r : List Int) (hN : Net s l r) : ∃ (a : List S71) (P : Int → Bool) (m : Int), a.length ≤ 8 ∧ IsM s P m ∧ (a, P) = stripF s l 8 (fun _ => true) ∧ Ev (fun k => spec_l3Strip.f k s l) (a, (V s).filter P) ∧ Ev (fun k => impl_net_stripping.f k r) (a, m) := by
  have h8 := hG.2.1
  have h0 := hG.1
  have hlen : ((V s).filter (fun _ => true)).length ≤ s.toNat := VF_len
  obtain ⟨x, hx, hx1, hx2⟩ := strip_impl s l hG r hN 8 (fun _ => true) _ [] (mask_all h0 h8) (by omega) (by simp)
  have hsp := strip_spec s l hl hG 8 (fun _ => true) [] (by omega) (by simp)
  have hlen8 : ∀ (n : Nat) (P : Int → Bool), (stripF s l n P).1.length ≤ n := by
    intro n
    induction n with
    | zero => intro P; exact Nat.le_refl _
    | succ n ih =>
      intro P
      cases hc : corn s l P with
      | nil => rw [stripF_nil hc]; simp
      | cons y t =>
        rw [stripF_cons hc]
        have := ih (without P y)
        simp only [List.length_cons]
        omega
  refine ⟨(stripF s l 8 (fun _ => true)).1, (stripF s l 8 (fun _ => true)).2, x.2, hlen8 _ _, hx2, rfl, Cm.ev ?_, Cm.ev ?_⟩
  · unfold spec_l3Strip.f
    exact Cm.bindE (all_ev s l h0 h8) (Cm.bindE (corners_spec s l hl hG _) (Cm.of hsp (by rw [List.nil_append])))
  · unfold impl_net_stripping.f impl_net_all.f
    have hm := hN.1.1
    rw [hm]
    refine Cm.bindE (sz_ev rfl) (Cm.of hx ?_)
    rw [← hx1.trans (List.nil_append _)]
theorem incr_ev (L : List Int) (hl : L.length ≤ 1048576) : Cm (fun k => impl_increasing.f k L) (fun b => b = true ↔ Up L) := by
  unfold impl_increasing.f
  by_cases hz : (L.length : Int) < 1
  · have : L = [] := List.length_eq_zero_iff.1 (by omega)
    subst this
    exact Cm.step (fun k => by simp only [impl_increasing.l0, if_neg (show ¬ (1 : Int) < (([] : List Int).length : Int) by decide)]; try rfl) (Cm.now ⟨fun _ => List.Pairwise.nil, fun _ => rfl⟩)
  refine Cm.up (fun k i (_ : Unit) => impl_increasing.l0 k L i) L.length (fun i _ => 1 ≤ i ∧ ∀ j : Int, 0 < j → j < i → rd L (j - 1) < rd L j) _ ?_ 1 () (by omega) ⟨by omega, fun j h0 h1 => by omega⟩
  rintro i _ hi ⟨h0, ht⟩ ih
  by_cases h : i < L.length
  · by_cases e : rd L (i - 1) < rd L i
    · refine Cm.step (fun k => by simp (disch := omega) only [impl_increasing.l0, w64 (i - 1), w64 (i + 1), if_pos, if_neg]; try rfl) (ih () h ⟨by omega, fun j h1 h2 => ?_⟩)
      by_cases ej : j = i
      · subst ej; exact e
      · exact ht j h1 (by omega)
    · refine Cm.step (fun k => by simp (disch := omega) only [impl_increasing.l0, w64 (i - 1), if_pos]; try rfl) (Cm.now ⟨fun h => Bool.noConfusion h, fun hu => (e (up_rd hu (i - 1) i (by omega) (by omega) h)).elim⟩)
  · refine Cm.step (fun k => by simp only [impl_increasing.l0, if_neg h]; try rfl) (Cm.now ⟨fun _ => up_of_rd (fun j h1 h2 => ht j h1 (by omega)), fun _ => rfl⟩)
theorem mask_cm (L : List Int) (hl : L.length ≤ 1048576) (hm : ∀ x ∈ L, 0 ≤ x ∧ x < 8) : Cm (fun k => impl_maskOf.f k L) (fun r => M8 r ∧ ∀ v : Int, 0 ≤ v → v < 64 → bit r v = decide (v ∈ L)) := by
  unfold impl_maskOf.f
  refine Cm.up (fun k i m => impl_maskOf.l0 k m L L.length i) L.length (fun i m => 0 ≤ i ∧ M8 m ∧ ∀ v : Int, 0 ≤ v → v < 64 → bit m v = decide (v ∈ L.take i.toNat)) _ ?_ 0 0 (by omega) ⟨by omega, zero_ok.1, fun v h0 h1 => by rw [zero_ok.2 v h0 h1]; simp⟩
  rintro i m hi ⟨h0, hM, hb⟩ ih
  by_cases h : i < L.length
  · have hr := hm _ (rd_mem L i h0 h)
    have h1 := one_ok (rd L i) hr.1 hr.2
    have h2 := or_ok m _ hM h1.1
    refine Cm.step (fun k => by simp (disch := omega) only [impl_maskOf.l0, if_pos h, if_pos h0, if_pos hr.1, w64 (i + 1)]; try rfl) (ih _ h ⟨by omega, h2.1, fun v v0 v1 => ?_⟩)
    rw [h2.2 v v0 v1, hb v v0 v1, h1.2 v v0 v1, take_rd L i h0 h, Bool.eq_iff_iff, Bool.or_eq_true, decide_eq_true_eq, beq_iff_eq, decide_eq_true_eq, List.mem_append, List.mem_singleton]
  · refine Cm.step (fun k => by simp only [impl_maskOf.l0, if_neg h]; try rfl) (Cm.now ⟨hM, fun v v0 v1 => ?_⟩)
    rw [hb v v0 v1, take_all L i (by omega)]
/-- A list of nodes of a good graph. -/
theorem nodes_cm (s : Int) (l : List S71) (L : List Int) (hl : L.length ≤ 1048576) (hG : Good s l) (hI : Ev (fun k => impl_IsGraph.f k s l) true) : Cm (fun k => impl_hasNodes.f k s l L) (fun b => b = true ↔ ∀ x ∈ L, 0 ≤ x ∧ x < s) := by
  have h8 := hG.2.1
  have h0 := hG.1
  unfold impl_hasNodes.f
  rw [w64 (s - 1) (by omega) (by omega)]
  refine Cm.bindE hI (Cm.pos rfl (Cm.bind (allIn_ev L 0 (s - 1) hl) (fun b hb => Cm.now ?_)))
  rw [hb]
  exact ⟨fun h x hx => by have := h x hx; omega, fun h x hx => by have := h x hx; omega⟩
theorem rising_cm (L : List Int) (hi : Int) (hl : L.length ≤ 1048576) : Cm (fun k => spec_l1Rising.f k L 0 hi) (fun b => b = true ↔ (∀ x ∈ L, 0 ≤ x ∧ x ≤ hi) ∧ Up L) := by
  unfold spec_l1Rising.f
  refine Cm.up (fun k i (_ : Unit) => spec_l1Rising.l0 k L 0 hi i) L.length (fun i _ => 0 ≤ i ∧ (∀ x ∈ L.take i.toNat, 0 ≤ x ∧ x ≤ hi) ∧ ∀ j : Int, 0 < j → j < i → rd L (j - 1) < rd L j) _ ?_ 0 () (by omega) ⟨by omega, by simp, fun j h0 h1 => by omega⟩
  rintro i _ hi' ⟨h0, ht, hu⟩ ih
  by_cases h : i < L.length
  · by_cases e : 0 ≤ rd L i ∧ rd L i ≤ hi
    · by_cases e2 : 0 < i → rd L (i - 1) < rd L i
      · have go : Cm (fun k => spec_l1Rising.l0 k L 0 hi (i + 1)) (fun b => b = true ↔ (∀ x ∈ L, 0 ≤ x ∧ x ≤ hi) ∧ Up L) := ih () h ⟨by omega, fun x hx => by
          rw [take_rd L i h0 h] at hx
          rcases List.mem_append.1 hx with hx | hx
          · exact ht x hx
          · rw [List.mem_singleton] at hx
            rw [hx]
            exact e, fun j h1 h2 => by
          by_cases ej : j = i
          · subst ej; exact e2 h1
          · exact hu j h1 (by omega)⟩
        by_cases h1 : 0 < i
        · have := e2 h1
          exact Cm.step (fun k => by simp (disch := omega) only [spec_l1Rising.l0, if_pos h, if_pos h0, l1In_eq, Option.bind_some, decide_eq_true e, if_true, w64 (i + 1), w64 (i - 1), if_pos, if_neg]; try rfl) go
        · exact Cm.step (fun k => by simp (disch := omega) only [spec_l1Rising.l0, if_pos h, if_pos h0, l1In_eq, Option.bind_some, decide_eq_true e, if_true, w64 (i + 1), if_neg]; try rfl) go
      · have h1 : 0 < i := by
          by_cases h1 : 0 < i
          · exact h1
          · exact (e2 (fun h => (h1 h).elim)).elim
        have h2 : ¬ rd L (i - 1) < rd L i := fun h => e2 (fun _ => h)
        exact Cm.step (fun k => by simp (disch := omega) only [spec_l1Rising.l0, if_pos h, if_pos h0, l1In_eq, Option.bind_some, decide_eq_true e, if_true, w64 (i - 1), if_pos]; try rfl) (Cm.now ⟨fun h => Bool.noConfusion h, fun hA => (h2 (up_rd hA.2 (i - 1) i (by omega) (by omega) h)).elim⟩)
    · exact Cm.step (fun k => by simp only [spec_l1Rising.l0, if_pos h, if_pos h0, l1In_eq, Option.bind_some, decide_eq_false e, Bool.false_eq_true, if_false]; try rfl) (Cm.now ⟨fun h => Bool.noConfusion h, fun hA => (e (hA.1 _ (rd_mem L i h0 h))).elim⟩)
  · refine Cm.step (fun k => by simp only [spec_l1Rising.l0, if_neg h]; try rfl) (Cm.now ⟨fun _ => ⟨?_, up_of_rd (fun j h1 h2 => hu j h1 (by omega))⟩, fun _ => rfl⟩)
    rw [take_all L i (by omega)] at ht
    exact ht
/-- A set of nodes: rising. -/
def IsSet (s : Int) (L : List Int) : Prop := (∀ x ∈ L, 0 ≤ x ∧ x < s) ∧ Up L
theorem set_spec (s : Int) (l : List S71) (L : List Int) (hl : L.length ≤ 1048576) (h0 : 0 ≤ s) (h8 : s ≤ 8) : Cm (fun k => spec_l2Set.f k s l L) (fun b => b = true ↔ IsSet s L) := by
  unfold spec_l2Set.f
  rw [w64 (s - 1) (by omega) (by omega)]
  refine Cm.bind (rising_cm L (s - 1) hl) (fun b hb => Cm.now ?_)
  rw [hb]
  exact ⟨fun h => ⟨fun x hx => by have := h.1 x hx; omega, h.2⟩, fun h => ⟨fun x hx => by have := h.1 x hx; omega, h.2⟩⟩
theorem set_impl (s : Int) (l : List S71) (L : List Int) (hl : L.length ≤ 1048576) (hG : Gr.Good s l) (hI : Ev (fun k => impl_IsGraph.f k s l) true) : Cm (fun k => impl_isSet.f k s l L) (fun b => b = true ↔ IsSet s L) := by
  unfold impl_isSet.f
  refine Cm.bind (nodes_cm s l L hl hG hI) (fun b hb => Cm.ite (fun e => Cm.bind (incr_ev L hl) (fun b2 hb2 => Cm.now ?_)) (fun e => Cm.now ⟨fun h => Bool.noConfusion h, fun hS => (e (hb.2 hS.1)).elim⟩))
  rw [hb2]
  exact ⟨fun h => ⟨hb.1 e, h⟩, fun h => h.2⟩
theorem set_impl_no (s : Int) (l : List S71) (L : List Int) (hI : Ev (fun k => impl_IsGraph.f k s l) false) : Ev (fun k => impl_isSet.f k s l L) false := by
  refine Cm.ev ?_
  unfold impl_isSet.f impl_hasNodes.f
  exact Cm.bindE (x := false) (Cm.ev (Cm.bindE hI (Cm.neg (by decide) (Cm.now rfl)))) (Cm.neg (by decide) (Cm.now rfl))
/-- The members of a list. -/
def inL (L : List Int) (x : Int) : Bool := decide (x ∈ L)
theorem set_filter {s : Int} {L : List Int} (h : IsSet s L) : L = (V s).filter (inL L) := up_filter h.2 h.1
theorem mask_set {s : Int} {L : List Int} (h : IsSet s L) {m : Int} (hM : M8 m) (hb : ∀ v : Int, 0 ≤ v → v < 64 → bit m v = decide (v ∈ L)) : M8 m ∧ ∀ v : Int, 0 ≤ v → v < 8 → bit m v = (decide (v < s) && inL L v) := by
  refine ⟨hM, fun v v0 v1 => ?_⟩
  rw [hb v v0 (by omega)]
  unfold inL
  by_cases hv : v ∈ L
  · rw [decide_eq_true hv, decide_eq_true (h.1 v hv).2]; rfl
  · rw [decide_eq_false hv, Bool.and_false]
/-- A good graph and a set of it, as both find them. -/
theorem both_sets (s : Int) (l : List S71) (L : List Int) (hl : l.length ≤ 1048576) (hL : L.length ≤ 1048576) : ∃ b, (b = true → Gr.Good s l ∧ Sorted l ∧ IsSet s L) ∧ Ev (fun k => spec_l3Both.f k s l L) b ∧ Ev (fun k => impl_isSet.f k s l L) b := by
  obtain ⟨b, hg, hS, hI⟩ := isGraph_full s l hl
  cases b with
  | false =>
    refine ⟨false, fun h => Bool.noConfusion h, Cm.ev ?_, set_impl_no s l L hI⟩
    unfold spec_l3Both.f
    exact Cm.bindE hS (Cm.neg (by decide) (Cm.now rfl))
  | true =>
    obtain ⟨hG, hO⟩ := hg rfl
    obtain ⟨b1, e1, h1⟩ := set_spec s l L hL hG.1 hG.2.1
    obtain ⟨b2, e2, h2⟩ := set_impl s l L hL hG hI
    have e : b1 = b2 := Bool.eq_iff_iff.2 (h1.trans h2.symm)
    subst e
    refine ⟨b1, fun h => ⟨hG, hO, h1.1 h⟩, Cm.ev ?_, e2⟩
    unfold spec_l3Both.f
    exact Cm.bindE hS (Cm.pos rfl (Cm.bindE e1 (Cm.now rfl)))
theorem contains_ev (L : List Int) (x : Int) (hl : L.length ≤ 1048576) : Ev (fun k => slices_Contains_int_int.f k L x) (decide (x ∈ L)) := by
  refine Cm.ev ?_
  unfold slices_Contains_int_int.f slices_Index_int_int.f
  refine Cm.bind (P := fun t => t ≥ 0 ↔ x ∈ L) ?_ (fun t ht => Cm.now ?_)
  · refine Cm.up (fun k i (_ : Unit) => slices_Index_int_int.l0 k L x L.length i) L.length (fun i _ => 0 ≤ i ∧ x ∉ L.take i.toNat) _ ?_ 0 () (by omega) ⟨by omega, by simp⟩
    rintro i _ hi ⟨h0, ht⟩ ih
    by_cases h : i < L.length
    · by_cases e : x = rd L i
      · refine Cm.step (fun k => by simp only [slices_Index_int_int.l0, if_pos h, if_pos h0, if_pos e]; try rfl) (Cm.now ⟨fun _ => e ▸ rd_mem L i h0 h, fun _ => h0⟩)
      · refine Cm.step (fun k => by simp (disch := omega) only [slices_Index_int_int.l0, if_pos h, if_pos h0, if_neg e, w64 (i + 1)]; try rfl) (ih () h ⟨by omega, ?_⟩)
        rw [take_rd L i h0 h, List.mem_append, List.mem_singleton]
        rintro (h' | h')
        · exact ht h'
        · exact e h'
    · refine Cm.step (fun k => by simp only [slices_Index_int_int.l0, if_neg h]; try rfl) (Cm.now ?_)
      rw [take_all L i (by omega)] at ht
      exact ⟨fun h => by omega, fun h => (ht h).elim⟩
  · exact decide_eq_decide.2 ht
theorem some_ev (s : Int) (l : List S71) (b : Bool) (h : Ev (fun k => spec_l2Good.f k s l) b) : Ev (fun k => spec_l3Some.f k s l) (b && decide (s > 0)) := by
  refine Cm.ev ?_
  unfold spec_l3Some.f
  cases b with
  | false => exact Cm.bindE h (Cm.neg (by decide) (Cm.now rfl))
  | true => exact Cm.bindE h (Cm.pos rfl (Cm.now rfl))
theorem corner_ex (s : Int) (l : List S71) (L : List Int) (x : Int) (hl : l.length ≤ 1048576) (hL : L.length ≤ 1048576) (b0 : Bool) (hb : b0 = true → Gr.Good s l ∧ Sorted l ∧ IsSet s L) (hS : Ev (fun k => spec_l3Both.f k s l L) b0) (hI : Ev (fun k => impl_isSet.f k s l L) b0) : ∃ r b, (b = true → b0 = true ∧ x ∈ L ∧ r = hasC s l (inL L) x) ∧ Ev (fun k => spec_IsCorner.f k s l L x) (r, b) ∧ Ev (fun k => impl_IsCorner.f k s l L x) (r, b) := by
  have iJ : Cm (fun k => impl_IsCorner.j0 k L x true s l) (fun z => z = (false, false)) := Cm.step (fun k => by simp only [impl_IsCorner.j0, if_true]; try rfl) (Cm.now rfl)
  cases b0 with
  | false =>
    refine ⟨false, false, fun h => Bool.noConfusion h, Cm.ev ?_, Cm.ev ?_⟩
    · exact Cm.bindE hS (Cm.neg (by decide) (Cm.now rfl))
    · exact Cm.bindE hI (Cm.neg (by decide) iJ)
  | true =>
    obtain ⟨hG, hO, hset⟩ := hb rfl
    have h8 := hG.2.1
    by_cases hx : x ∈ L
    · obtain ⟨m, hm, hbit, hN⟩ := net_ev s l hl hG
      obtain ⟨M, eM, hM1, hM2⟩ := mask_cm L hL (fun y hy => by have := hset.1 y hy; omega)
      have hc1 := cover_ev s l hl hG L hL hset.2 hset.1 (inL L) (fun b _ _ => (decide_eq_true_iff (p := b ∈ L)).symm) x (hset.1 x hx)
      have hc2 := covers_impl s l hG m ⟨hm, hbit⟩ (inL L) M (mask_set hset hM1 hM2) x (hset.1 x hx)
      have hr : decide ((covs s l (inL L) x).headD (-1) ≥ 0) = hasC s l (inL L) x := by
        rw [Bool.eq_iff_iff, decide_eq_true_iff]
        exact head_ge
      refine ⟨hasC s l (inL L) x, true, fun _ => ⟨rfl, hx, rfl⟩, Cm.ev ?_, Cm.ev ?_⟩
      · rw [← hr]
        exact Cm.bindE hS (Cm.pos rfl (Cm.bindE (has_ev L x hL) (Cm.pos (decide_eq_true hx) (Cm.bindE hc1 (Cm.now rfl)))))
      · rw [← hr]
        refine Cm.bindE hI (Cm.pos rfl (Cm.bindE (contains_ev L x hL) ?_))
        rw [decide_eq_true hx]
        refine Cm.step (fun k => by simp only [impl_IsCorner.j0, Bool.not_true, Bool.false_eq_true, if_false]; try rfl) ?_
        refine Cm.bindE hN (Cm.bindE eM (Cm.bindE hc2 (Cm.now ?_)))
        congr 1
        rw [decide_eq_decide]
        cases h : covs s l (inL L) x with
        | nil => simp
        | cons y t =>
          have : y ∈ covs s l (inL L) x := by rw [h]; exact List.mem_cons_self
          have := (mem_covs.1 this).2.1.1
          rw [List.headD_cons, List.length_cons]
          omega
    · refine ⟨false, false, fun h => Bool.noConfusion h, Cm.ev ?_, Cm.ev ?_⟩
      · exact Cm.bindE hS (Cm.pos rfl (Cm.bindE (has_ev L x hL) (Cm.neg (by simpa using hx) (Cm.now rfl))))
      · refine Cm.bindE hI (Cm.pos rfl (Cm.bindE (contains_ev L x hL) ?_))
        rw [decide_eq_false hx]
        exact iJ
theorem corners_ex (s : Int) (l : List S71) (L : List Int) (hl : l.length ≤ 1048576) (hL : L.length ≤ 1048576) (b0 : Bool) (hb : b0 = true → Gr.Good s l ∧ Sorted l ∧ IsSet s L) (hS : Ev (fun k => spec_l3Both.f k s l L) b0) (hI : Ev (fun k => impl_isSet.f k s l L) b0) : ∃ r, r.length ≤ 8 ∧ (b0 = true → r = corn s l (inL L)) ∧ Ev (fun k => spec_CornersOf.f k s l L) (r, b0) ∧ Ev (fun k => impl_CornersOf.f k s l L) (r, b0) := by
  cases b0 with
  | false =>
    refine ⟨[], by simp, fun h => Bool.noConfusion h, Cm.ev ?_, Cm.ev ?_⟩
    · exact Cm.bindE hS (Cm.neg (by decide) (Cm.now rfl))
    · exact Cm.bindE hI (Cm.neg (by decide) (Cm.now rfl))
  | true =>
    obtain ⟨hG, hO, hset⟩ := hb rfl
    have h8 := hG.2.1
    obtain ⟨m, hm, hbit, hN⟩ := net_ev s l hl hG
    obtain ⟨M, eM, hM1, hM2⟩ := mask_cm L hL (fun y hy => by have := hset.1 y hy; omega)
    have hc1 := corners_spec s l hl hG (inL L)
    rw [← set_filter hset] at hc1
    have hc2 := corners_impl s l hG m ⟨hm, hbit⟩ (inL L) M (mask_set hset hM1 hM2)
    have hlen : (corn s l (inL L)).length ≤ s.toNat := VF_len
    refine ⟨corn s l (inL L), by omega, fun _ => rfl, Cm.ev ?_, Cm.ev ?_⟩
    · exact Cm.bindE hS (Cm.pos rfl (Cm.bindE hc1 (Cm.now rfl)))
    · exact Cm.bindE hI (Cm.pos rfl (Cm.bindE hN (Cm.bindE eM (Cm.bindE hc2 (Cm.now rfl)))))
theorem covs_eq {s : Int} {l : List S71} {P Q : Int → Bool} (h : ∀ b : Int, 0 ≤ b → b < s → P b = Q b) : corn s l P = corn s l Q := by
  unfold corn
  refine VF_congr (fun x x0 x1 => ?_)
  unfold hasC
  rw [h x x0 x1, covs_congr h x]
theorem inL_VF {s : Int} {Q : Int → Bool} : ∀ b : Int, 0 ≤ b → b < s → inL ((V s).filter Q) b = Q b := fun b b0 b1 => by
  unfold inL
  rw [Bool.eq_iff_iff, decide_eq_true_iff, mem_VF]
  exact ⟨fun h => h.2, fun h => ⟨⟨b0, b1⟩, h⟩⟩
/-- The corners of a set of nodes, by the program. -/
theorem corners_of (s : Int) (l : List S71) (Q : Int → Bool) (hl : l.length ≤ 1048576) (hG : Gr.Good s l) (hI : Ev (fun k => impl_IsGraph.f k s l) true) : Ev (fun k => impl_CornersOf.f k s l ((V s).filter Q)) (corn s l Q, true) := by
  have h8 := hG.2.1
  have hlen : ((V s).filter Q).length ≤ s.toNat := VF_len
  have hset : IsSet s ((V s).filter Q) := ⟨fun x hx => (mem_VF.1 hx).1, filter_up (V_up _) _⟩
  obtain ⟨b, e, h⟩ := set_impl s l ((V s).filter Q) (by omega) hG hI
  have eb : b = true := h.2 hset
  subst eb
  obtain ⟨m, hm, hbit, hN⟩ := net_ev s l hl hG
  obtain ⟨M, eM, hM1, hM2⟩ := mask_cm ((V s).filter Q) (by omega) (fun y hy => by have := hset.1 y hy; omega)
  have hc2 := corners_impl s l hG m ⟨hm, hbit⟩ (inL ((V s).filter Q)) M (mask_set hset hM1 hM2)
  rw [covs_eq inL_VF] at hc2
  exact Cm.ev (Cm.bindE e (Cm.pos rfl (Cm.bindE hN (Cm.bindE eM (Cm.bindE hc2 (Cm.now rfl))))))
theorem strip_ex (s : Int) (l : List S71) (hl : l.length ≤ 1048576) : ∃ (a : List S71) (c : List Int) (b : Bool), a.length ≤ 8 ∧ c.length ≤ 8 ∧ (b = true → Gr.Good s l ∧ Ev (fun k => impl_IsGraph.f k s l) true ∧ ∃ P, stripF s l 8 (fun _ => true) = (a, P) ∧ c = (V s).filter P) ∧ Ev (fun k => spec_StrippingOf.f k s l) (a, b) ∧ Ev (fun k => impl_StrippingOf.f k s l) (a, b) ∧ Ev (fun k => spec_CoreOf.f k s l) (c, b) ∧ Ev (fun k => impl_CoreOf.f k s l) (c, b) := by
  obtain ⟨b, hb, hS, hI⟩ := isGraph_full s l hl
  have hSo := some_ev s l b hS
  have iJ : Cm (fun k => impl_StrippingOf.j0 k true s l) (fun z => z = ([], false)) := Cm.step (fun k => by simp only [impl_StrippingOf.j0, if_true]; try rfl) (Cm.now rfl)
  have iK : Cm (fun k => impl_CoreOf.j0 k true s l) (fun z => z = ([], false)) := Cm.step (fun k => by simp only [impl_CoreOf.j0, if_true]; try rfl) (Cm.now rfl)
  by_cases hc : b = true ∧ s > 0
  · obtain ⟨rfl, hs⟩ := hc
    obtain ⟨hG, hO⟩ := hb rfl
    have h8 := hG.2.1
    obtain ⟨r, hr, hbit, hN⟩ := net_ev s l hl hG
    obtain ⟨a, P, m, ha, hM, hF, e1, e2⟩ := strip_both s l hl hG r ⟨hr, hbit⟩
    rw [Bool.true_and, decide_eq_true hs] at hSo
    have hlen : ((V s).filter P).length ≤ s.toNat := VF_len
    have hz : (s == 0) = false := by rw [beq_eq_false_iff_ne]; omega
    refine ⟨a, (V s).filter P, true, ha, by omega, fun _ => ⟨hG, hI, P, hF.symm, rfl⟩, Cm.ev ?_, Cm.ev ?_, Cm.ev ?_, Cm.ev ?_⟩
    · exact Cm.bindE hSo (Cm.pos rfl (Cm.bindE e1 (Cm.now rfl)))
    · refine Cm.bindE hI (Cm.pos rfl ?_)
      rw [hz]
      refine Cm.step (fun k => by simp only [impl_StrippingOf.j0, Bool.false_eq_true, if_false]; try rfl) ?_
      exact Cm.bindE hN (Cm.bindE e2 (Cm.now rfl))
    · exact Cm.bindE hSo (Cm.pos rfl (Cm.bindE e1 (Cm.now rfl)))
    · refine Cm.bindE hI (Cm.pos rfl ?_)
      rw [hz]
      refine Cm.step (fun k => by simp only [impl_CoreOf.j0, Bool.false_eq_true, if_false]; try rfl) ?_
      exact Cm.bindE hN (Cm.bindE e2 (Cm.bindE (setP_ev m hM.1 s h8 P hM.2) (Cm.now rfl)))
  · have hf : (b && decide (s > 0)) = false := by
      rw [Bool.and_eq_false_iff]
      by_cases hb' : b = true
      · exact .inr (decide_eq_false (fun h => hc ⟨hb', h⟩))
      · exact .inl (Bool.eq_false_iff.2 hb')
    rw [hf] at hSo
    have hz : b = true → (s == 0) = true := fun e => by rw [beq_iff_eq]; have := (hb e).1.1; have h5 : ¬ s > 0 := fun h => hc ⟨e, h⟩; omega
    refine ⟨[], [], false, by simp, by simp, fun h => Bool.noConfusion h, Cm.ev ?_, Cm.ev ?_, Cm.ev ?_, Cm.ev ?_⟩
    · exact Cm.bindE hSo (Cm.neg (by decide) (Cm.now rfl))
    · refine Cm.bindE hI (Cm.ite (fun e => ?_) (fun _ => iJ))
      rw [hz e]
      exact iJ
    · exact Cm.bindE hSo (Cm.neg (by decide) (Cm.now rfl))
    · refine Cm.bindE hI (Cm.ite (fun e => ?_) (fun _ => iK))
      rw [hz e]
      exact iK
/-- A stripping that goes on takes the least corner. -/
theorem strip_cons {s : Int} {l : List S71} {n : Nat} {Q P : Int → Bool} {e : S71} {rest : List S71} (hlen : ((V s).filter Q).length ≤ n) (h : stripF s l n Q = (e :: rest, P)) : ∃ n' t, corn s l Q = e.f0 :: t ∧ Q e.f0 = true ∧ Cov s l Q e.f0 e.f1 ∧ (0 ≤ e.f0 ∧ e.f0 < s) ∧ ((V s).filter (without Q e.f0)).length ≤ n' ∧ stripF s l n' (without Q e.f0) = (rest, P) := by
  cases n with
  | zero => injection h with h1 _; cases h1
  | succ n =>
    cases hc : corn s l Q with
    | nil => rw [stripF_nil hc] at h; injection h with h1 _; cases h1
    | cons x t =>
      have hx := corn_head hc
      obtain ⟨y, u, hy⟩ := hasC_iff.1 hx.2.2
      rw [stripF_cons hc, hy] at h
      injection h with h1 h2
      injection h1 with h3 h4
      subst h3
      have hw := without_len hx.1 hx.2.1
      have hm : y ∈ covs s l Q x := by rw [hy]; exact List.mem_cons_self
      refine ⟨n, t, rfl, hx.2.1, mem_covs.1 hm, hx.1, by show ((V s).filter (without Q x)).length ≤ n; omega, ?_⟩
      rw [← h4, ← h2]
/-- A stripping that is at its end leaves a set without corners. -/
theorem strip_end {s : Int} {l : List S71} {n : Nat} {Q P : Int → Bool} (hlen : ((V s).filter Q).length ≤ n) (h : stripF s l n Q = ([], P)) : corn s l Q = [] ∧ P = Q := by
  cases hc : corn s l Q with
  | nil => rw [stripF_nil hc] at h; injection h with _ h2; exact ⟨rfl, h2.symm⟩
  | cons x t =>
    cases n with
    | zero => rw [corn_empty (by omega)] at hc; cases hc
    | succ n => rw [stripF_cons hc] at h; injection h with h1 _; cases h1
/-- A code: bytes, not too many. -/
def Code8 (C : List Int) : Prop := C.length ≤ 65536 ∧ ∀ x ∈ C, 0 ≤ x ∧ x ≤ 255
theorem code_of {C : List Int} (hl : C.length ≤ 65536) (h : ∀ x ∈ C, (Lit.int .u8 x).wf = true) : Code8 C := ⟨hl, fun x hx => by
  have h2 := h x hx
  simp only [Lit.wf, Bool.and_eq_true, decide_eq_true_eq] at h2
  exact ⟨h2.1, h2.2⟩⟩
theorem rd8 {C : List Int} (hC : Code8 C) (a : Int) : 0 ≤ rd C a ∧ rd C a ≤ 255 := by
  unfold rd
  rw [List.getD_eq_getElem?_getD]
  cases h : C[a.toNat]? with
  | none => exact ⟨by decide, by decide⟩
  | some x => exact hC.2 x (List.mem_of_getElem? h)
theorem and255 (x : Int) : 0 ≤ Go.bits .and .u64 x 255 ∧ Go.bits .and .u64 x 255 ≤ 255 := by
  have h : (BitVec.ofInt IntKind.u64.bits x &&& BitVec.ofInt IntKind.u64.bits 255).toNat ≤ 255 := by
    rw [BitVec.toNat_and]
    exact Nat.and_le_right
  have hw : ∀ n : Int, IntKind.u64.wrap n = n % 18446744073709551616 := fun n => by simp [IntKind.wrap, IntKind.bits, IntKind.signed]
  rw [show Go.bits .and .u64 x 255 = IntKind.u64.wrap ((BitVec.ofInt IntKind.u64.bits x &&& BitVec.ofInt IntKind.u64.bits 255).toNat : Int) from rfl, hw]
  omega
theorem next_cm {C : List Int} (hC : Code8 C) (a s : Int) (h0 : 0 ≤ a) (h1 : a ≤ 1000000000) : Cm (fun _ => spec_l1Cur_next.f C a s) (fun r => 0 ≤ r.1 ∧ r.1 ≤ 255 ∧ r.2.1 = a + 1) := by
  have hr := rd8 hC a
  have hw : wrap64 (a + 1) = a + 1 := w64 _ (by omega) (by omega)
  unfold spec_l1Cur_next.f
  rw [hw]
  refine Cm.ite (fun _ => Cm.pos h0 (Cm.ite (fun _ => Cm.now ?_) (fun _ => Cm.now ?_))) (fun _ => Cm.ite (fun _ => Cm.now ?_) (fun _ => Cm.now ?_))
  · dsimp only
    rw [w64 _ (by omega) (by omega)]
    exact ⟨hr.1, hr.2, rfl⟩
  · dsimp only
    have hb := and255 ((IntKind.u64.wrap ((IntKind.u64.wrap ((IntKind.u64.wrap (s * 6364136223846793005)) + (IntKind.u64.wrap (wrap64 (rd C a))))) + 462197)) / 1099511627776)
    rw [w64 _ (by omega) (by omega)]
    exact ⟨hb.1, hb.2, rfl⟩
  · exact ⟨by dsimp only; omega, by dsimp only; omega, rfl⟩
  · dsimp only
    have hb := and255 ((IntKind.u64.wrap ((IntKind.u64.wrap (IntKind.u64.wrap (s * 6364136223846793005))) + 462197)) / 1099511627776)
    rw [w64 _ (by omega) (by omega)]
    exact ⟨hb.1, hb.2, rfl⟩
/-- A number that is picked. -/
theorem pick_cm {C : List Int} (hC : Code8 C) (a s n : Int) (h0 : 0 ≤ a) (h1 : a ≤ 100000000) (hn : 1 ≤ n) (hN : n ≤ 100000) : Cm (fun _ => spec_l1Cur_pick.f C a s n) (fun r => 0 ≤ r.1 ∧ r.1 < n ∧ a ≤ r.2.1 ∧ r.2.1 ≤ a + 2) := by
  unfold spec_l1Cur_pick.f
  refine Cm.ite (fun _ => Cm.now ⟨by dsimp only; omega, by dsimp only; omega, by dsimp only; omega, by dsimp only; omega⟩) (fun hc => Cm.bind (next_cm hC a s h0 (by omega)) ?_)
  rintro ⟨x, a1, s1⟩ ⟨x0, x1, x2⟩
  dsimp only at x0 x1 x2 ⊢
  have tm : ∀ y : Int, 0 ≤ y → 0 ≤ Int.tmod y n ∧ Int.tmod y n < n := fun y hy => by
    rw [Int.tmod_eq_emod_of_nonneg hy]
    exact ⟨Int.emod_nonneg _ (by omega), Int.emod_lt_of_pos _ (by omega)⟩
  refine Cm.ite (fun hb => Cm.bind (next_cm hC a1 s1 (by omega) (by omega)) ?_) (fun hb => Cm.neg (by omega) (Cm.now ?_))
  · rintro ⟨y, a2, s2⟩ ⟨y0, y1, y2⟩
    dsimp only at y0 y1 y2 ⊢
    refine Cm.neg (by omega) (Cm.now ?_)
    dsimp only
    rw [w64 (x * 256) (by omega) (by omega), w64 (x * 256 + y) (by omega) (by omega)]
    have := tm (x * 256 + y) (by omega)
    exact ⟨this.1, this.2, by omega, by omega⟩
  · have := tm x x0
    dsimp only
    exact ⟨this.1, this.2, by omega, by omega⟩
theorem one_cm {C : List Int} (hC : Code8 C) (a s n : Int) (h0 : 0 ≤ a) (h1 : a ≤ 100000000) (hn : 1 ≤ n) (hN : n ≤ 100000) : Cm (fun _ => spec_l1Cur_one.f C a s n) (fun r => a ≤ r.2.1 ∧ r.2.1 ≤ a + 2) := by
  unfold spec_l1Cur_one.f
  refine Cm.bind (pick_cm hC a s n h0 h1 hn hN) ?_
  rintro ⟨x, a1, s1⟩ ⟨_, _, x2, x3⟩
  exact Cm.now ⟨x2, x3⟩
theorem among_cm {C : List Int} (hC : Code8 C) (a s : Int) (l : List Int) (h0 : 0 ≤ a) (h1 : a ≤ 100000000) (hn : 1 ≤ l.length) (hN : l.length ≤ 1000) : Cm (fun _ => spec_l1Cur_among.f C a s l) (fun r => r.1 ∈ l ∧ a ≤ r.2.1 ∧ r.2.1 ≤ a + 2) := by
  unfold spec_l1Cur_among.f
  refine Cm.bind (pick_cm hC a s l.length h0 h1 (by omega) (by omega)) ?_
  rintro ⟨x, a1, s1⟩ ⟨x0, x1, x2, x3⟩
  dsimp only at x0 x1 x2 x3 ⊢
  exact Cm.pos x0 (Cm.pos x1 (Cm.now ⟨rd_mem l x x0 x1, x2, x3⟩))
theorem marred_cm {C : List Int} (hC : Code8 C) (a s n : Int) (l : List S71) (h0 : 0 ≤ a) (h1 : a ≤ 90000000) (hl : l.length ≤ 1000) : Cm (fun _ => spec_l1Cur_marred.f C a s n l) (fun r => r.2.1.length ≤ l.length + 1 ∧ a ≤ r.2.2.1 ∧ r.2.2.1 ≤ a + 6) := by
  unfold spec_l1Cur_marred.f
  refine Cm.bind (pick_cm hC a s 50 h0 (by omega) (by omega) (by omega)) ?_
  rintro ⟨x, a1, s1⟩ ⟨x0, x1, x2, x3⟩
  dsimp only at x0 x1 x2 x3 ⊢
  refine Cm.ite (fun _ => Cm.bind (among_cm hC a1 s1 _ (by omega) (by omega) (by decide) (by decide)) ?_) (fun _ => Cm.ite (fun _ => Cm.bind (pick_cm hC a1 s1 4 (by omega) (by omega) (by omega) (by omega)) ?_) (fun _ => Cm.ite (fun _ => Cm.ite (fun hp => Cm.bind (pick_cm hC a1 s1 l.length (by omega) (by omega) (by omega) (by omega)) ?_) (fun _ => Cm.now ⟨by dsimp only; omega, by dsimp only; omega, by dsimp only; omega⟩)) (fun _ => Cm.now ⟨by dsimp only; omega, by dsimp only; omega, by dsimp only; omega⟩)))
  · rintro ⟨y, a2, s2⟩ ⟨_, y1, y2⟩
    dsimp only at y1 y2 ⊢
    exact Cm.now ⟨by dsimp only; omega, by dsimp only; omega, by dsimp only; omega⟩
  · rintro ⟨y, a2, s2⟩ ⟨_, _, y1, y2⟩
    dsimp only at y1 y2 ⊢
    refine Cm.bind (pick_cm hC a2 s2 9 (by omega) (by omega) (by omega) (by omega)) ?_
    rintro ⟨z, a3, s3⟩ ⟨_, _, z1, z2⟩
    dsimp only at z1 z2 ⊢
    exact Cm.pos (by omega) (Cm.now ⟨by simp, by dsimp only; omega, by dsimp only; omega⟩)
  · rintro ⟨y, a2, s2⟩ ⟨w0, w1, y1, y2⟩
    dsimp only at w0 w1 y1 y2 ⊢
    exact Cm.pos w0 (Cm.pos w1 (Cm.pos (by omega) (Cm.now ⟨by simp, by dsimp only; omega, by dsimp only; omega⟩)))
/-- A pair more, wherever it is put. -/
theorem putDr_len (l : List S71) (x y : Int) (hl : l.length ≤ 10000) : Cm (fun k => spec_l2Put.f k l x y) (fun r => r.length = l.length + 1 ∧ ∀ e ∈ r, e = ⟨x, y⟩ ∨ e ∈ l) := by
  unfold spec_l2Put.f
  have fin : ∀ i : Int, 0 ≤ i → i ≤ l.length → (l.take i.toNat ++ [(⟨x, y⟩ : S71)] ++ l.drop i.toNat).length = l.length + 1 ∧ ∀ e ∈ l.take i.toNat ++ [(⟨x, y⟩ : S71)] ++ l.drop i.toNat, e = ⟨x, y⟩ ∨ e ∈ l := by
    intro i h0 h1
    refine ⟨by rw [List.length_append, List.length_append, List.length_take, List.length_drop, List.length_singleton]; omega, fun e he => ?_⟩
    rcases List.mem_append.1 he with he | he
    · rcases List.mem_append.1 he with he | he
      · exact .inr (List.mem_of_mem_take he)
      · exact .inl (List.mem_singleton.1 he)
    · exact .inr (List.mem_of_mem_drop he)
  refine Cm.up (fun k i (_ : Unit) => spec_l2Put.l0 k l i x y) l.length (fun i _ => 0 ≤ i) _ ?_ 0 () (by omega) (by omega)
  rintro i - hi h0 ih
  by_cases h : i < l.length
  · cases hb : decide ((rd_T71 l i).f0 < x ∨ ((rd_T71 l i).f0 = x ∧ (rd_T71 l i).f1 < y)) with
    | true =>
      exact Cm.step (fun k => by simp (disch := omega) only [spec_l2Put.l0, if_pos h, if_pos h0, before_eq, hb, Option.bind_some, if_true, w64 (i + 1)]; try rfl) (ih () h (by omega))
    | false =>
      exact Cm.step (fun k => by simp (disch := omega) only [spec_l2Put.l0, if_pos h, if_pos h0, before_eq, hb, Bool.false_eq_true, if_false, Option.bind_some, List.nil_append, List.length_nil, Nat.zero_add, List.length_append, List.length_take, List.length_drop, List.length_singleton, if_pos]; try rfl) (Cm.now (fin i h0 hi))
  · exact Cm.step (fun k => by simp (disch := omega) only [spec_l2Put.l0, Option.bind_some, if_neg h, if_pos h0, List.nil_append, List.length_nil, Nat.zero_add, List.length_append, List.length_take, List.length_drop, List.length_singleton, if_pos]; try rfl) (Cm.now (fin i h0 hi))
theorem pathDr_len (n : Int) (h0 : 0 ≤ n) (h8 : n ≤ 8) : Cm (fun k => spec_l2Path.f k n) (fun r => r.2.length ≤ 8) := by
  unfold spec_l2Path.f
  refine Cm.up (fun k i (z : List S71) => spec_l2Path.l0 k n i n z) (n + 1) (fun i z => 0 ≤ i ∧ (z.length : Int) ≤ i ∧ (z.length : Int) ≤ 8) _ ?_ 0 [] (by omega) ⟨by omega, by simp, by simp⟩
  rintro i z hi ⟨i0, hl, hl8⟩ ih
  have hw : wrap64 (i + 1) = i + 1 := w64 _ (by omega) (by omega)
  by_cases h : i + 1 < n
  · refine Cm.step (fun k => by simp only [spec_l2Path.l0, hw, if_pos h]; try rfl) (Cm.pos (by omega) (ih _ (by omega) ⟨by omega, ?_, ?_⟩)) <;> (rw [List.length_append, List.length_singleton]; omega)
  · exact Cm.step (fun k => by simp only [spec_l2Path.l0, hw, if_neg h]; try rfl) (Cm.now (by dsimp only; omega))
theorem cycle_len (n : Int) (h0 : 0 ≤ n) (h8 : n ≤ 8) : Cm (fun k => spec_l2Cycle.f k n) (fun r => r.2.length ≤ 9) := by
  unfold spec_l2Cycle.f
  refine Cm.bind (pathDr_len n h0 h8) ?_
  rintro ⟨m, l⟩ hl
  dsimp only at hl ⊢
  refine Cm.bind (putDr_len l _ _ (by omega)) ?_
  rintro r ⟨hr, _⟩
  exact Cm.now (by dsimp only; omega)
theorem complete_len (n : Int) (h0 : 0 ≤ n) (h8 : n ≤ 8) : Cm (fun k => spec_l2Complete.f k n) (fun r => r.2.length ≤ 64) := by
  unfold spec_l2Complete.f
  refine Cm.up (fun k i (z : List S71) => spec_l2Complete.l0 k n i n z) n (fun i z => 0 ≤ i ∧ (z.length : Int) ≤ 8 * i) _ ?_ 0 [] (by omega) ⟨by omega, by simp⟩
  rintro i z hi ⟨i0, hl⟩ ih
  have hw : wrap64 (i + 1) = i + 1 := w64 _ (by omega) (by omega)
  by_cases h : i < n
  · refine Cm.step (fun k => by simp only [spec_l2Complete.l0, hw, if_pos h]; try rfl) ?_
    refine Cm.up (fun k j (z : List S71) => spec_l2Complete.l1 k n i j n z) n (fun j z => i < j ∧ (z.length : Int) ≤ 8 * i + (j - i)) _ ?_ (i + 1) z (by omega) ⟨by omega, by omega⟩
    rintro j z hj ⟨j0, hlj⟩ ih2
    have hwj : wrap64 (j + 1) = j + 1 := w64 _ (by omega) (by omega)
    by_cases hc : j < n
    · refine Cm.step (fun k => by simp only [spec_l2Complete.l1, hwj, if_pos hc]; try rfl) (Cm.pos (by omega) (ih2 _ hc ⟨by omega, ?_⟩))
      rw [List.length_append, List.length_singleton]
      omega
    · exact Cm.step (fun k => by simp only [spec_l2Complete.l1, hw, if_neg hc]; try rfl) (ih z h ⟨by omega, by omega⟩)
  · exact Cm.step (fun k => by simp only [spec_l2Complete.l0, if_neg h]; try rfl) (Cm.now (by dsimp only; omega))
theorem least_cm (a b : Int) : spec_l1Least.f a b = some (min a b) := by
  unfold spec_l1Least.f
  by_cases h : a < b
  · rw [if_pos h, show min a b = a by omega]
  · rw [if_neg h, show min a b = b by omega]
theorem most_cm (a b : Int) : spec_l1Most.f a b = some (max a b) := by
  unfold spec_l1Most.f
  by_cases h : a > b
  · rw [if_pos h, show max a b = a by omega]
  · rw [if_neg h, show max a b = b by omega]
/-- A few pairs, and not far on in the code. -/
def Few (A : Int) (r : Int × List S71 × Int × Int) : Prop := r.2.1.length ≤ 200 ∧ A ≤ r.2.2.1 ∧ r.2.2.1 ≤ A + 400
theorem some_j1 {C : List Int} (hC : Code8 C) (A a s m x : Int) (m0 : 0 ≤ m) (m8 : m ≤ 8) (x0 : 0 ≤ x) (x8 : x ≤ 8) (hA : 0 ≤ A) (hA2 : A ≤ a) (h1 : a ≤ A + 10) (hB : A ≤ 80000000) : Cm (fun k => spec_l1Cur_someGraph.j1 k m x C a s) (Few A) := by
  refine Cm.step (fun k => by simp only [spec_l1Cur_someGraph.j1, least_cm, Option.bind_some]; try rfl) ?_
  obtain ⟨n, hn⟩ : ∃ n, n = min x m := ⟨_, rfl⟩
  rw [← hn]
  have n0 : 0 ≤ n := by omega
  have n8 : n ≤ 8 := by omega
  clear hn
  refine Cm.bind (pick_cm hC a s 8 (by omega) (by omega) (by omega) (by omega)) ?_
  rintro ⟨q, a1, s1⟩ ⟨_, _, q1, q2⟩
  dsimp only at q1 q2 ⊢
  have fin : ∀ (n' : Int) (l : List S71), l.length ≤ 100 → Cm (fun _ => (spec_l1Cur_marred.f C a1 s1 n' l).bind fun bt => some (bt.1, bt.2.1, bt.2.2.1, bt.2.2.2)) (Few A) := fun n' l hl => by
    refine Cm.bind (marred_cm hC a1 s1 n' l (by omega) (by omega) (by omega)) ?_
    rintro ⟨u, v, w, z⟩ ⟨v1, v2, v3⟩
    exact Cm.now ⟨by dsimp only at v1 ⊢; omega, by dsimp only at v2 ⊢; omega, by dsimp only at v3 ⊢; omega⟩
  refine Cm.ite (fun _ => Cm.bind (pathDr_len n n0 n8) ?_) (fun _ => Cm.ite (fun _ => Cm.ite (fun _ => Cm.bind (cycle_len n n0 n8) ?_) (fun _ => fin n [] (by simp))) (fun _ => Cm.ite (fun _ => Cm.bind (complete_len n n0 n8) ?_) (fun _ => Cm.bind (among_cm hC a1 s1 _ (by omega) (by omega) (by decide) (by decide)) ?_)))
  · rintro ⟨u, v⟩ hv
    dsimp only at hv ⊢
    exact fin u v (by omega)
  · rintro ⟨u, v⟩ hv
    dsimp only at hv ⊢
    exact fin u v (by omega)
  · rintro ⟨u, v⟩ hv
    dsimp only at hv ⊢
    exact fin u v (by omega)
  · rintro ⟨de, a2, s2⟩ ⟨hde, d1, d2⟩
    dsimp only at hde d1 d2 ⊢
    have de0 : 1 ≤ de ∧ de ≤ 6 := by
      simp only [List.mem_cons, List.not_mem_nil, or_false] at hde
      omega
    refine Cm.bind (one_cm hC a2 s2 6 (by omega) (by omega) (by omega) (by omega)) ?_
    rintro ⟨lo, a3, s3⟩ ⟨l1, l2⟩
    dsimp only at l1 l2 ⊢
    refine Cm.up (fun k i (z : List S71 × Int × Int) => spec_l1Cur_someGraph.l0 k n de lo i C z.2.1 z.2.2 n z.1) n (fun i z => 0 ≤ i ∧ (z.1.length : Int) ≤ 9 * i ∧ A ≤ z.2.1 ∧ z.2.1 ≤ A + 20 + 20 * i) _ ?_ 0 ([], a3, s3) (by omega) ⟨by omega, by simp, by dsimp only; omega, by dsimp only; omega⟩
    rintro i ⟨z, b, t⟩ hi ⟨i0, hl, hb0, hb1⟩ ih
    dsimp only at hl hb0 hb1 ⊢
    have hw : wrap64 (i + 1) = i + 1 := w64 _ (by omega) (by omega)
    by_cases h : i < n
    · refine Cm.step (fun k => by simp only [spec_l1Cur_someGraph.l0, hw, if_pos h]; try rfl) ?_
      refine Cm.up (fun k j (z : List S71 × Int × Int) => spec_l1Cur_someGraph.l1 k n de lo i j C z.2.1 z.2.2 n z.1) n (fun j z => i < j ∧ (z.1.length : Int) ≤ 9 * i + (j - i - 1) ∧ A ≤ z.2.1 ∧ z.2.1 ≤ A + 20 + 20 * i + 2 * (j - i - 1)) _ ?_ (i + 1) (z, b, t) (by omega) ⟨by omega, by dsimp only; omega, by dsimp only; omega, by dsimp only; omega⟩
      rintro j ⟨z, b, t⟩ hj ⟨j0, hlj, hbj0, hbj1⟩ ih2
      dsimp only at hlj hbj0 hbj1 ⊢
      have hwj : wrap64 (j + 1) = j + 1 := w64 _ (by omega) (by omega)
      by_cases hc : j < n
      · refine Cm.step (fun k => by simp only [spec_l1Cur_someGraph.l1, hwj, if_pos hc]; try rfl) (Cm.bind (pick_cm hC b t de (by omega) (by omega) (by omega) (by omega)) ?_)
        rintro ⟨p, b2, t2⟩ ⟨_, _, p1, p2⟩
        dsimp only at p1 p2 ⊢
        refine Cm.ite (fun _ => Cm.bind (putDr_len z _ _ (by omega)) ?_) (fun _ => ih2 (z, b2, t2) hc ⟨by omega, by dsimp only; omega, by dsimp only; omega, by dsimp only; omega⟩)
        rintro r ⟨hr, _⟩
        exact ih2 (r, b2, t2) hc ⟨by omega, by dsimp only; omega, by dsimp only; omega, by dsimp only; omega⟩
      · have go : ∀ (r : List S71) (b2 t2 : Int), r.length ≤ z.length + 1 → b ≤ b2 → b2 ≤ b + 2 → Cm (fun k => spec_l1Cur_someGraph.l0 k n de lo (i + 1) C b2 t2 n r) (Few A) := fun r b2 t2 h1 h2 h3 => ih (r, b2, t2) h ⟨by omega, by dsimp only; omega, by dsimp only; omega, by dsimp only; omega⟩
        refine Cm.step (fun k => by simp only [spec_l1Cur_someGraph.l1, hw, if_neg hc, most_cm, Option.bind_some]; try rfl) (Cm.bind (pick_cm hC b t (max i 1) (by omega) (by omega) (by omega) (by omega)) ?_)
        rintro ⟨p, b2, t2⟩ ⟨_, _, p1, p2⟩
        dsimp only at p1 p2 ⊢
        refine Cm.ite (fun _ => Cm.ite (fun _ => go z b2 t2 (by omega) p1 p2) (fun _ => Cm.bindE (near_ev n z i p (by omega)) (Cm.ite (fun _ => go z b2 t2 (by omega) p1 p2) (fun _ => Cm.bind (putDr_len z _ _ (by omega)) ?_)))) (fun _ => go z b2 t2 (by omega) p1 p2)
        rintro r ⟨hr, _⟩
        exact go r b2 t2 (by omega) p1 p2
    · refine Cm.step (fun k => by simp only [spec_l1Cur_someGraph.l0, if_neg h]; try rfl) (Cm.bind (marred_cm hC b t n z (by omega) (by omega) (by omega)) ?_)
      rintro ⟨u, v, w, y⟩ ⟨v1, v2, v3⟩
      exact Cm.now ⟨by dsimp only at v1 ⊢; omega, by dsimp only at v2 ⊢; omega, by dsimp only at v3 ⊢; omega⟩
theorem someDr_cm {C : List Int} (hC : Code8 C) (a s m : Int) (m0 : 0 ≤ m) (m8 : m ≤ 8) (h0 : 0 ≤ a) (h1 : a ≤ 80000000) : Cm (fun k => spec_l1Cur_someGraph.f k C a s m) (Few a) := by
  unfold spec_l1Cur_someGraph.f
  refine Cm.bind (among_cm hC a s _ h0 (by omega) (by decide) (by decide)) ?_
  rintro ⟨x, a1, s1⟩ ⟨hx, x1, x2⟩
  dsimp only at hx x1 x2 ⊢
  have hx8 : 0 ≤ x ∧ x ≤ 8 := by
    simp only [List.mem_cons, List.not_mem_nil, or_false] at hx
    omega
  have no : ∀ a2 s2, a ≤ a2 → a2 ≤ a + 4 → Cm (fun k => spec_l1Cur_someGraph.j0 k m x false C a2 s2) (Few a) := fun a2 s2 g0 g1 =>
    Cm.step (fun k => by simp only [spec_l1Cur_someGraph.j0, Bool.false_eq_true, if_false]; try rfl) (some_j1 hC a a2 s2 m x m0 m8 hx8.1 hx8.2 h0 g0 (by omega) h1)
  refine Cm.ite (fun _ => Cm.bind (one_cm hC a1 s1 4 (by omega) (by omega) (by omega) (by omega)) ?_) (fun _ => no a1 s1 x1 (by omega))
  rintro ⟨b, a2, s2⟩ ⟨b1, b2⟩
  dsimp only at b1 b2 ⊢
  cases b with
  | false => exact no a2 s2 (by omega) (by omega)
  | true =>
    refine Cm.step (fun k => by simp only [spec_l1Cur_someGraph.j0, if_true]; try rfl) (Cm.bind (pick_cm hC a2 s2 2 (by omega) (by omega) (by omega) (by omega)) ?_)
    rintro ⟨y, a3, s3⟩ ⟨y0, y1, y2, y3⟩
    dsimp only at y0 y1 y2 y3 ⊢
    rw [w64 (7 + y) (by omega) (by omega)]
    exact some_j1 hC a a3 s3 m (7 + y) m0 m8 (by omega) (by omega) h0 (by omega) (by omega) h1
theorem tame_cm {C : List Int} (hC : Code8 C) (a s m : Int) (m0 : 1 ≤ m) (m8 : m ≤ 7) (h0 : 0 ≤ a) (h1 : a ≤ 80000000) : Cm (fun k => spec_l1Cur_tame.f k C a s m) (Few a) := by
  unfold spec_l1Cur_tame.f
  refine Cm.bind (pick_cm hC a s m h0 (by omega) (by omega) (by omega)) ?_
  rintro ⟨x, a1, s1⟩ ⟨x0, xm, x1, x2⟩
  dsimp only at x0 xm x1 x2 ⊢
  rw [w64 (1 + x) (by omega) (by omega)]
  obtain ⟨n, hn⟩ : ∃ n, n = 1 + x := ⟨_, rfl⟩
  rw [← hn]
  have n1 : 1 ≤ n := by omega
  have n8 : n ≤ 8 := by omega
  clear hn
  refine Cm.up (fun k i (z : List S71 × Int × Int) => spec_l1Cur_tame.l0 k i C z.2.1 z.2.2 n z.1) n (fun i z => 1 ≤ i ∧ (z.1.length : Int) ≤ 9 * i ∧ a ≤ z.2.1 ∧ z.2.1 ≤ a + 20 + 20 * i ∧ ∀ e ∈ z.1, 0 ≤ e.f0 ∧ e.f0 < e.f1 ∧ e.f1 < n) _ ?_ 1 ([], a1, s1) (by omega) ⟨by omega, by simp, by dsimp only; omega, by dsimp only; omega, by simp⟩
  rintro i ⟨z, b, t⟩ hi ⟨i0, hl, hb0, hb1, hz⟩ ih
  dsimp only at hl hb0 hb1 hz ⊢
  have hw : wrap64 (i + 1) = i + 1 := w64 _ (by omega) (by omega)
  by_cases h : i < n
  · have hG : Gr.Good n z := ⟨by omega, n8, fun j j0 j1 => hz _ (List.mem_of_getElem? (rd_lt z j j0 j1))⟩
    refine Cm.step (fun k => by simp only [spec_l1Cur_tame.l0, if_pos h]; try rfl) (Cm.bind (pick_cm hC b t i (by omega) (by omega) (by omega) (by omega)) ?_)
    rintro ⟨p, b2, t2⟩ ⟨p0, pi, p1, p2⟩
    dsimp only at p0 pi p1 p2 ⊢
    refine Cm.bindE (ball_ev n z (by omega) hG p ⟨p0, by omega⟩) ?_
    obtain ⟨B, hB⟩ : ∃ B, B = (V n).filter (cl z p) := ⟨_, rfl⟩
    have hBl : B.length ≤ n.toNat := by rw [hB]; exact VF_len
    have hBm : ∀ y ∈ B, 0 ≤ y ∧ y < n := fun y hy => by rw [hB] at hy; exact (mem_VF.1 hy).1
    rw [← hB]
    clear hB hG
    refine Cm.up (fun k j (z : List S71 × Int × Int) => spec_l1Cur_tame.l1 k i p B j C z.2.1 z.2.2 n z.1) B.length (fun j z => 0 ≤ j ∧ (z.1.length : Int) ≤ 9 * i + j ∧ a ≤ z.2.1 ∧ z.2.1 ≤ a + 20 + 20 * i + 2 + 2 * j ∧ ∀ e ∈ z.1, 0 ≤ e.f0 ∧ e.f0 < e.f1 ∧ e.f1 < n) _ ?_ 0 (z, b2, t2) (by omega) ⟨by omega, by dsimp only; omega, by dsimp only; omega, by dsimp only; omega, hz⟩
    rintro j ⟨z, b, t⟩ hj ⟨j0, hlj, hbj0, hbj1, hzj⟩ ih2
    dsimp only at hlj hbj0 hbj1 hzj ⊢
    have hwj : wrap64 (j + 1) = j + 1 := w64 _ (by omega) (by omega)
    by_cases hc : j < B.length
    · have hm := hBm _ (rd_mem B j j0 hc)
      refine Cm.step (fun k => by simp only [spec_l1Cur_tame.l1, hwj, if_pos hc, if_pos j0]; try rfl) ?_
      have put : ∀ b3 t3, b ≤ b3 → b3 ≤ b + 2 → rd B j < i → Cm (fun k => (spec_l2Put.f k z (rd B j) i).bind fun r => spec_l1Cur_tame.l1 k i p B (j + 1) C b3 t3 n r) (Few a) := fun b3 t3 g0 g1 hlt => by
        refine Cm.bind (putDr_len z _ _ (by omega)) ?_
        rintro r ⟨hr, hrm⟩
        refine ih2 (r, b3, t3) hc ⟨by omega, by dsimp only; omega, by dsimp only; omega, by dsimp only; omega, fun e he => ?_⟩
        rcases hrm e he with h | h
        · rw [h]
          exact ⟨hm.1, hlt, by dsimp only; omega⟩
        · exact hzj e h
      have skip : ∀ b3 t3, b ≤ b3 → b3 ≤ b + 2 → Cm (fun k => spec_l1Cur_tame.l1 k i p B (j + 1) C b3 t3 n z) (Few a) := fun b3 t3 g0 g1 => ih2 (z, b3, t3) hc ⟨by omega, by dsimp only; omega, by dsimp only; omega, by dsimp only; omega, hzj⟩
      refine Cm.ite (fun hlt => Cm.ite (fun _ => put b t (by omega) (by omega) hlt) (fun _ => Cm.bind (one_cm hC b t 2 (by omega) (by omega) (by omega) (by omega)) ?_)) (fun _ => skip b t (by omega) (by omega))
      rintro ⟨o, b3, t3⟩ ⟨o1, o2⟩
      dsimp only at o1 o2 ⊢
      exact Cm.ite (fun _ => put b3 t3 o1 o2 hlt) (fun _ => skip b3 t3 o1 o2)
    · exact Cm.step (fun k => by simp only [spec_l1Cur_tame.l1, hw, if_neg hc]; try rfl) (ih (z, b, t) h ⟨by omega, by dsimp only; omega, by dsimp only; omega, by dsimp only; omega, hzj⟩)
  · refine Cm.step (fun k => by simp only [spec_l1Cur_tame.l0, if_neg h]; try rfl) (Cm.bind (one_cm hC b t 6 (by omega) (by omega) (by omega) (by omega)) ?_)
    rintro ⟨o, b2, t2⟩ ⟨o1, o2⟩
    dsimp only at o1 o2 ⊢
    refine Cm.ite (fun _ => Cm.bind (marred_cm hC b2 t2 n z (by omega) (by omega) (by omega)) ?_) (fun _ => Cm.now ⟨by dsimp only; omega, by dsimp only; omega, by dsimp only; omega⟩)
    rintro ⟨u, v, w, y⟩ ⟨v1, v2, v3⟩
    exact Cm.now ⟨by dsimp only at v1 ⊢; omega, by dsimp only at v2 ⊢; omega, by dsimp only at v3 ⊢; omega⟩
theorem fieldDr_cm {C : List Int} (hC : Code8 C) (a s : Int) (h0 : 0 ≤ a) (h1 : a ≤ 70000000) : Cm (fun k => spec_l1Cur_field3.f k C a s) (fun r => r.2.1.length ≤ 200 ∧ a ≤ r.2.2.1 ∧ r.2.2.1 ≤ a + 500) := by
  unfold spec_l1Cur_field3.f spec_l1Cur_graph.f
  refine Cm.bind (one_cm hC a s 2 h0 (by omega) (by omega) (by omega)) ?_
  rintro ⟨o, a1, s1⟩ ⟨o1, o2⟩
  dsimp only at o1 o2 ⊢
  refine Cm.ite (fun _ => Cm.bind (tame_cm hC a1 s1 6 (by omega) (by omega) (by omega) (by omega)) ?_) (fun _ => Cm.bind (P := Few a1) (Cm.bind (someDr_cm hC a1 s1 6 (by omega) (by omega) (by omega) (by omega)) (fun r hr => Cm.now hr)) ?_)
  · rintro ⟨u, v, w, y⟩ ⟨v1, v2, v3⟩
    exact Cm.now ⟨by dsimp only at v1 ⊢; omega, by dsimp only at v2 ⊢; omega, by dsimp only at v3 ⊢; omega⟩
  · rintro ⟨u, v, w, y⟩ ⟨v1, v2, v3⟩
    exact Cm.now ⟨by dsimp only at v1 ⊢; omega, by dsimp only at v2 ⊢; omega, by dsimp only at v3 ⊢; omega⟩
theorem nodeDr_cm {C : List Int} (hC : Code8 C) (a s n : Int) (l : List S71) (h0 : 0 ≤ a) (h1 : a ≤ 80000000) : Cm (fun k => spec_l1Cur_node.f k C a s n l) (fun r => a ≤ r.2.1 ∧ r.2.1 ≤ a + 4) := by
  have yes : ∀ a1 s1, a ≤ a1 → a1 ≤ a + 2 → Cm (fun k => spec_l1Cur_node.j0 k true C a1 s1 n l) (fun r => a ≤ r.2.1 ∧ r.2.1 ≤ a + 4) := fun a1 s1 g0 g1 => by
    refine Cm.step (fun k => by simp only [spec_l1Cur_node.j0, if_true]; try rfl) (Cm.bind (among_cm hC a1 s1 _ (by omega) (by omega) (by decide) (by decide)) ?_)
    rintro ⟨y, a2, s2⟩ ⟨_, y1, y2⟩
    exact Cm.now ⟨by dsimp only at y1 ⊢; omega, by dsimp only at y2 ⊢; omega⟩
  unfold spec_l1Cur_node.f
  refine Cm.ite (fun _ => yes a s (by omega) (by omega)) (fun c1 => Cm.ite (fun _ => yes a s (by omega) (by omega)) (fun c2 => Cm.bind (one_cm hC a s 24 h0 (by omega) (by omega) (by omega)) ?_))
  rintro ⟨o, a1, s1⟩ ⟨o1, o2⟩
  dsimp only at o1 o2 ⊢
  cases o with
  | true => exact yes a1 s1 o1 o2
  | false =>
    refine Cm.step (fun k => by simp only [spec_l1Cur_node.j0, Bool.false_eq_true, if_false]; try rfl) (Cm.bind (pick_cm hC a1 s1 n (by omega) (by omega) (by omega) (by omega)) ?_)
    rintro ⟨y, a2, s2⟩ ⟨_, _, y1, y2⟩
    exact Cm.now ⟨by dsimp only at y1 ⊢; omega, by dsimp only at y2 ⊢; omega⟩
theorem nodesDr_cm {C : List Int} (hC : Code8 C) (a s n : Int) (l : List S71) (h0 : 0 ≤ a) (h1 : a ≤ 80000000) : Cm (fun k => spec_l1Cur_nodes.f k C a s n l) (fun r => r.1.length ≤ 9 ∧ a ≤ r.2.1 ∧ r.2.1 ≤ a + 6) := by
  unfold spec_l1Cur_nodes.f
  rw [least_cm]
  refine Cm.bindE (Ev.now _) ?_
  rw [most_cm]
  refine Cm.bindE (Ev.now _) (Cm.bind (pick_cm hC a s 256 h0 (by omega) (by omega) (by omega)) ?_)
  rintro ⟨y, a1, s1⟩ ⟨_, _, y1, y2⟩
  dsimp only at y1 y2 ⊢
  have hlen : ((V (max (min n 8) 0)).filter (bit y)).length ≤ (max (min n 8) 0).toNat := VF_len
  refine Cm.bindE (bits_ev (max (min n 8) 0) y (by omega) (by omega)) (Cm.bind (one_cm hC a1 s1 20 (by omega) (by omega) (by omega) (by omega)) ?_)
  rintro ⟨o, a2, s2⟩ ⟨o1, o2⟩
  dsimp only at o1 o2 ⊢
  refine Cm.ite (fun _ => Cm.bind (among_cm hC a2 s2 _ (by omega) (by omega) (by decide) (by decide)) ?_) (fun _ => Cm.now ⟨by dsimp only; omega, by dsimp only; omega, by dsimp only; omega⟩)
  rintro ⟨z, a3, s3⟩ ⟨_, z1, z2⟩
  dsimp only at z1 z2 ⊢
  exact Cm.pos (by omega) (Cm.now ⟨by simp; omega, by dsimp only; omega, by dsimp only; omega⟩)
end Go.Proofs.Ytcjddikalgnhpaa.Gr
namespace Go.Proofs.Ytcjddikalgnhpaa.Gr
open Go.RowKit Go.Proofs.Ytcjddikalgnhpaa.P Go.Proofs.YtcjddikalgnhpaaW.PrintWords Go.Proofs.YtcjddikalgnhpaaW.PrintLast
theorem within_eq (a lo hi : Int) : impl_within.f a lo hi = some (decide (lo ≤ a ∧ a ≤ hi)) := by
  unfold impl_within.f
  by_cases h : a ≥ lo
  · rw [if_pos h]
    simp [show lo ≤ a from h]
  · rw [if_neg h]
    simp [show ¬ lo ≤ a from h]
theorem one_within (v hi : Int) : Ev (fun k => impl_allWithin.f k [v] 0 hi) (decide (0 ≤ v ∧ v ≤ hi)) := by
  refine ⟨2, fun k hk => ?_⟩
  obtain ⟨k, rfl⟩ : ∃ m, k = m + 2 := ⟨k - 2, by omega⟩
  dsimp only
  have hw : wrap64 (0 + 1) = 1 := by unfold wrap64; omega
  unfold impl_allWithin.f
  simp only [impl_allWithin.l0, within_eq, Option.bind_some, hw, decide_eq_true_eq]
  have r0 : rd [v] 0 = v := rfl
  have l1 : (([v] : List Int).length : Int) = 1 := rfl
  rw [r0, l1, if_pos (by omega), if_pos (by omega), if_pos (by omega)]
  by_cases h : 0 ≤ v ∧ v ≤ hi
  · rw [if_pos h, if_neg (by omega), decide_eq_true h]
  · rw [if_neg h, decide_eq_false h]
theorem has_one (s : Int) (l : List S71) (v : Int) (hG : Good s l) (hI : Ev (fun k => impl_IsGraph.f k s l) true) : Ev (fun k => impl_hasNodes.f k s l [v]) (decide (0 ≤ v ∧ v < s)) := by
  have h8 := hG.2.1
  have h0 := hG.1
  have hw : wrap64 (s - 1) = s - 1 := by unfold wrap64; omega
  have e : decide (0 ≤ v ∧ v < s) = decide (0 ≤ v ∧ v ≤ s - 1) := by rw [decide_eq_decide]; omega
  rw [e]
  refine Ev.bind hI (Ev.congr (f := fun k => (impl_allWithin.f k [v] 0 (wrap64 (s - 1))).bind fun t => some t) (fun k => ?_) (Ev.bind (a := decide (0 ≤ v ∧ v ≤ s - 1)) ?_ (Ev.now _)))
  · rw [if_pos rfl]
  · rw [hw]
    exact one_within v (s - 1)
theorem has_not (s : Int) (l : List S71) (L : List Int) (hI : Ev (fun k => impl_IsGraph.f k s l) false) : Ev (fun k => impl_hasNodes.f k s l L) false := by
  refine Ev.bind hI (Ev.congr (fun k => ?_) (Ev.now _))
  rfl
theorem node_eq (s : Int) (l : List S71) (v : Int) (hG : Good s l) : spec_l2Node.f s l v = some (decide (0 ≤ v ∧ v < s)) := by
  have h8 := hG.2.1
  have h0 := hG.1
  have hw : wrap64 (s - 1) = s - 1 := by unfold wrap64; omega
  have e : decide (0 ≤ v ∧ v < s) = decide (0 ≤ v ∧ v ≤ s - 1) := by rw [decide_eq_decide]; omega
  unfold spec_l2Node.f
  rw [l1In_eq, hw, e]
  rfl
end Go.Proofs.Ytcjddikalgnhpaa.Gr
namespace Go.Proofs.Ytcjddikalgnhpaa.Gr
open Go.RowKit Go.Proofs.Ytcjddikalgnhpaa.P Go.Proofs.YtcjddikalgnhpaaW.PrintWords Go.Proofs.YtcjddikalgnhpaaW.PrintLast Go.Proofs.YtcjddikalgnhpaaW.PrintMore
open Classical in
theorem covers_loop (s : Int) (l : List S71) (x : Int) (hl : l.length ≤ 1048576) (hG : Gr.Good s l) (hx : 0 ≤ x ∧ x < s) : Ev (fun k => spec_CoversOf.l0 k x [] 0 s l) (covs s l (fun _ => true) x, true) := by
  refine Cm.ev ?_
  have h8 := hG.2.1
  have h0 := hG.1
  have hA := all_ev s l h0 h8
  have hAl : ((V s).filter (fun _ => true)).length ≤ s.toNat := VF_len
  refine Cm.up (fun k i a => spec_CoversOf.l0 k x a i s l) s (fun i a => 0 ≤ i ∧ a = (V i).filter (fun y => decide (Cov s l (fun _ => true) x y))) _ ?_ 0 [] (by omega) ⟨by omega, rfl⟩
  rintro i a hi ⟨i0, rfl⟩ ih
  have hal : ((V i).filter (fun y => decide (Cov s l (fun _ => true) x y))).length ≤ i.toNat := VF_len
  by_cases h : i < s
  · refine Cm.step (fun k => by simp (disch := omega) only [spec_CoversOf.l0, if_pos h, w64 (i + 1)]; try rfl) ?_
    refine Cm.bindE hA (Cm.bind (covers_cm s l hl hG ((V s).filter (fun _ => true)) (by omega) (fun y hy => (mem_VF.1 hy).1) (fun _ => true) (fun b b0 b1 => by rw [mem_VF]; exact ⟨fun _ => rfl, fun _ => ⟨⟨b0, b1⟩, rfl⟩⟩) x i hx) ?_)
    intro b hb
    refine Cm.ite (fun e => Cm.pos (by omega) (ih _ h ⟨by omega, ?_⟩)) (fun e => ih _ h ⟨by omega, ?_⟩)
    · rw [VF_succ i0, if_pos (decide_eq_true (hb.1 e))]
    · rw [VF_succ i0, if_neg (fun e' => e (hb.2 (of_decide_eq_true e'))), List.append_nil]
  · refine Cm.step (fun k => by simp only [spec_CoversOf.l0, if_neg h]; try rfl) (Cm.now ?_)
    rw [show i = s by omega]
    rfl
theorem covers_both (s : Int) (l : List S71) (x : Int) (hl : l.length ≤ 1048576) : ∃ r b, r.length ≤ 1048576 ∧ Ev (fun k => spec_CoversOf.f k s l x) (r, b) ∧ Ev (fun k => impl_CoversOf.f k s l x) (r, b) := by
  obtain ⟨b, hb, hS, hI⟩ := isGraph_full s l hl
  cases b with
  | false =>
    refine ⟨[], false, by simp, Cm.ev ?_, Cm.ev ?_⟩
    · refine Cm.bindE (Ev.now _) (Cm.bindE hS (Cm.neg (by decide) ?_))
      exact Cm.step (fun k => by simp only [spec_CoversOf.j0, if_true]; try rfl) (Cm.now rfl)
    · exact Cm.bindE (has_not s l _ hI) (Cm.neg (by decide) (Cm.now rfl))
  | true =>
    obtain ⟨hG, hO⟩ := hb rfl
    have h8 := hG.2.1
    have h0 := hG.1
    have hH := has_one s l x hG hI
    by_cases hx : 0 ≤ x ∧ x < s
    · rw [decide_eq_true hx] at hH
      obtain ⟨m, hm, hbit, hN⟩ := net_ev s l hl hG
      refine ⟨covs s l (fun _ => true) x, true, by have := covs_len s l (fun _ => true) x; omega, Cm.ev ?_, Cm.ev ?_⟩
      · refine Cm.bindE (Ev.now _) (Cm.bindE hS (Cm.pos rfl ?_))
        rw [node_eq s l x hG, decide_eq_true hx]
        refine Cm.bindE (Ev.now _) (Cm.step (fun k => by simp only [spec_CoversOf.j0, Bool.not_true, Bool.false_eq_true, if_false]; try rfl) (Ev.cm (covers_loop s l x hl hG hx)))
      · refine Cm.bindE hH (Cm.pos rfl (Cm.bindE hN ?_))
        unfold impl_net_all.f
        rw [hm.1]
        refine Cm.bindE (sz_ev rfl) (Cm.bindE (covers_impl s l hG m ⟨hm, hbit⟩ (fun _ => true) _ (mask_all h0 h8) x hx) (Cm.now rfl))
    · rw [decide_eq_false hx] at hH
      refine ⟨[], false, by simp, Cm.ev ?_, Cm.ev ?_⟩
      · refine Cm.bindE (Ev.now _) (Cm.bindE hS (Cm.pos rfl ?_))
        rw [node_eq s l x hG, decide_eq_false hx]
        exact Cm.bindE (Ev.now _) (Cm.step (fun k => by simp only [spec_CoversOf.j0, Bool.not_false, if_true]; try rfl) (Cm.now rfl))
      · exact Cm.bindE hH (Cm.neg (by decide) (Cm.now rfl))
end Go.Proofs.Ytcjddikalgnhpaa.Gr
namespace Go.Proofs.Ytcjddikalgnhpaa.Gr
open Go.RowKit Go.Proofs.Ytcjddikalgnhpaa.P Go.Proofs.YtcjddikalgnhpaaW.PrintWords Go.Proofs.YtcjddikalgnhpaaW.PrintLast Go.Proofs.YtcjddikalgnhpaaW.PrintMore
theorem vInts_same (l : List Int) (hl : l.length ≤ 1048576) : Ev (fun k => laws_vInts.f k l l) true := by
  refine Cm.ev ?_
  unfold laws_vInts.f
  refine Cm.pos rfl (Cm.up (fun k i (_ : Unit) => laws_vInts.l0 k l l i) l.length (fun i _ => 0 ≤ i) _ ?_ 0 () (by omega) (by omega))
  rintro i - hi i0 ih
  by_cases h : i < l.length
  · exact Cm.step (fun k => by simp (disch := omega) only [laws_vInts.l0, if_pos h, if_pos i0, if_true, w64 (i + 1)]; try rfl) (ih () h (by omega))
  · exact Cm.step (fun k => by simp only [laws_vInts.l0, if_neg h]; try rfl) (Cm.now rfl)
theorem vPairs_same (l : List S71) (hl : l.length ≤ 1048576) : Ev (fun k => laws_vPairs.f k l l) true := by
  refine Cm.ev ?_
  unfold laws_vPairs.f
  refine Cm.pos rfl (Cm.up (fun k i (_ : Unit) => laws_vPairs.l0 k l l i) l.length (fun i _ => 0 ≤ i) _ ?_ 0 () (by omega) (by omega))
  rintro i - hi i0 ih
  by_cases h : i < l.length
  · exact Cm.step (fun k => by simp (disch := omega) only [laws_vPairs.l0, if_pos h, if_pos i0, beq_self_eq_true, Bool.not_true, Bool.or_self, Bool.false_eq_true, if_false, w64 (i + 1)]; try rfl) (ih () h (by omega))
  · exact Cm.step (fun k => by simp only [laws_vPairs.l0, if_neg h]; try rfl) (Cm.now rfl)
theorem vHas_ev (L : List Int) (x : Int) (hl : L.length ≤ 1048576) : Ev (fun k => laws_vHas.f k L x) (decide (x ∈ L)) := by
  refine Cm.ev ?_
  unfold laws_vHas.f
  refine Cm.up (fun k i (_ : Unit) => laws_vHas.l0 k L x i) L.length (fun i _ => 0 ≤ i ∧ x ∉ L.take i.toNat) _ ?_ 0 () (by omega) ⟨by omega, by simp⟩
  rintro i _ hi ⟨h0, ht⟩ ih
  by_cases h : i < L.length
  · by_cases e : rd L i = x
    · refine Cm.step (fun k => by simp only [laws_vHas.l0, if_pos h, if_pos h0, if_pos e]; try rfl) (Cm.now ?_)
      rw [decide_eq_true (e ▸ rd_mem L i h0 h)]
    · refine Cm.step (fun k => by simp (disch := omega) only [laws_vHas.l0, if_pos h, if_pos h0, if_neg e, w64 (i + 1)]; try rfl) (ih () h ⟨by omega, ?_⟩)
      rw [take_rd L i h0 h, List.mem_append, List.mem_singleton]
      rintro (h' | h')
      · exact ht h'
      · exact e h'.symm
  · refine Cm.step (fun k => by simp only [laws_vHas.l0, if_neg h]; try rfl) (Cm.now ?_)
    rw [take_all L i (by omega)] at ht
    rw [decide_eq_false ht]
theorem vNear_ev (s : Int) (l : List S71) (u v : Int) (hl : l.length ≤ 1048576) : Ev (fun k => laws_vNear.f k s l u v) (cl l u v) := by
  refine Cm.ev ?_
  unfold laws_vNear.f
  refine Cm.ite (fun e => Cm.now (by rw [e, cl_self])) (fun e => ?_)
  have hcl : cl l u v = near l u v := by
    unfold cl
    rw [show (u == v) = false from by rw [beq_eq_false_iff_ne]; exact e, Bool.or_false]
  rw [hcl]
  refine Cm.up (fun k i (_ : Unit) => laws_vNear.l0 k u v i s l) l.length (fun i _ => 0 ≤ i ∧ ∀ j : Int, 0 ≤ j → j < i → rd_T71 l j ≠ ⟨u, v⟩ ∧ rd_T71 l j ≠ ⟨v, u⟩) _ ?_ 0 () (by omega) ⟨by omega, fun j j0 j1 => by omega⟩
  rintro i - hi ⟨i0, hno⟩ ih
  have eqp : ∀ (p : S71) (a b : Int), (p.f0 == a && (p.f1 == b)) = true ↔ p = ⟨a, b⟩ := fun p a b => by
    rw [Bool.and_eq_true, beq_iff_eq, beq_iff_eq]
    exact ⟨fun h => by cases p; simp only at h; rw [h.1, h.2], fun h => by rw [h]; exact ⟨rfl, rfl⟩⟩
  by_cases h : i < l.length
  · refine Cm.step (fun k => by simp (disch := omega) only [laws_vNear.l0, if_pos h, if_pos i0, w64 (i + 1)]; try rfl) ?_
    have hm : rd_T71 l i ∈ l := List.mem_of_getElem? (rd_lt l i i0 h)
    refine Cm.ite (fun e1 => Cm.now ?_) (fun e1 => Cm.ite (fun e2 => Cm.now ?_) (fun e2 => ih () h ⟨by omega, fun j j0 j1 => ?_⟩))
    · exact ((near_iff l u v).2 (.inl ((eqp _ _ _).1 e1 ▸ hm))).symm
    · exact ((near_iff l u v).2 (.inr ((eqp _ _ _).1 e2 ▸ hm))).symm
    · by_cases ej : j = i
      · rw [ej]
        exact ⟨fun h' => e1 ((eqp _ _ _).2 h'), fun h' => e2 ((eqp _ _ _).2 h')⟩
      · exact hno j j0 (by omega)
  · refine Cm.step (fun k => by simp only [laws_vNear.l0, if_neg h]; try rfl) (Cm.now ?_)
    symm
    rw [Bool.eq_false_iff]
    intro hn
    rcases (near_iff l u v).1 hn with hm | hm
    · obtain ⟨j, j0, j1, e'⟩ := mem_rdT hm
      exact (hno j j0 (by omega)).1 e'
    · obtain ⟨j, j0, j1, e'⟩ := mem_rdT hm
      exact (hno j j0 (by omega)).2 e'
theorem vBits_ev (s m : Int) (h0 : 0 ≤ s) (h8 : s ≤ 8) : Ev (fun k => laws_vBits.f k s m) ((V s).filter (bit m)) := by
  refine Cm.ev ?_
  unfold laws_vBits.f
  refine Cm.up (fun k i a => laws_vBits.l0 k s m a i) s (fun i a => 0 ≤ i ∧ a = (V i).filter (bit m)) _ ?_ 0 [] (by omega) ⟨by omega, rfl⟩
  rintro i a hi ⟨i0, rfl⟩ ih
  have hlen : ((V i).filter (bit m)).length ≤ i.toNat := VF_len
  by_cases h : i < s
  · by_cases e : Go.bits .and .i64 (shr .i64 m i) 1 = 1
    · refine Cm.step (fun k => by simp (disch := omega) only [laws_vBits.l0, if_pos h, if_pos i0, if_pos e, w64 (i + 1), if_pos]; try rfl) (ih _ h ⟨by omega, ?_⟩)
      rw [VF_succ i0, if_pos (show bit m i = true by unfold bit; rw [e]; rfl)]
    · refine Cm.step (fun k => by simp (disch := omega) only [laws_vBits.l0, if_pos h, if_pos i0, if_neg e, w64 (i + 1)]; try rfl) (ih _ h ⟨by omega, ?_⟩)
      rw [VF_succ i0, if_neg (show ¬ bit m i = true by unfold bit; rw [beq_iff_eq]; exact e), List.append_nil]
  · refine Cm.step (fun k => by simp only [laws_vBits.l0, if_neg h]; try rfl) (Cm.now ?_)
    rw [show i = s by omega]
theorem vAll_ev (s : Int) (h0 : 0 ≤ s) (h8 : s ≤ 8) : Ev (fun k => laws_vBits.f k s (wrap64 ((shl .i64 1 s) - 1))) ((V s).filter (fun _ => true)) := by
  have h := vBits_ev s (wrap64 ((shl .i64 1 s) - 1)) h0 h8
  have hf := full_ok s h0 h8
  rw [VF_congr (q := fun _ => true) (fun x x0 x1 => by rw [hf.2 x x0 (by omega), decide_eq_true x1])] at h
  exact h
/-- A part of a code. -/
theorem cut_ok {C : List Int} (hC : Code8 C) (n : Int) (n0 : 1 ≤ n) (n1 : n ≤ 100) : ∃ D, laws_vCut.f C n = some D ∧ Code8 D := by
  have hl := hC.1
  have hb := hC.2
  unfold laws_vCut.f
  by_cases h : n > (C.length : Int)
  · rw [if_pos h, Option.bind_some, if_pos (by omega), if_pos (by omega), if_pos (by rw [List.length_drop, List.length_nil]; omega), Option.bind_some, if_pos (by rw [List.nil_append, List.length_drop]; omega)]
    refine ⟨_, rfl, ?_, fun x hx => ?_⟩
    · rw [List.nil_append, List.length_append, List.length_drop, List.length_singleton]; omega
    · rcases List.mem_append.1 hx with hx | hx
      · exact hb x (List.mem_of_mem_drop hx)
      · rw [List.mem_singleton.1 hx]; omega
  · rw [if_neg h, Option.bind_some, if_pos (by omega), if_pos (by omega), if_pos (by rw [List.length_drop, List.length_nil]; omega), Option.bind_some, if_pos (by rw [List.nil_append, List.length_drop]; omega)]
    refine ⟨_, rfl, ?_, fun x hx => ?_⟩
    · rw [List.nil_append, List.length_append, List.length_drop, List.length_singleton]; omega
    · rcases List.mem_append.1 hx with hx | hx
      · exact hb x (List.mem_of_mem_drop hx)
      · rw [List.mem_singleton.1 hx]; omega
end Go.Proofs.Ytcjddikalgnhpaa.Gr
namespace Go.Proofs.Ytcjddikalgnhpaa.Pure
open Go.RowKit Go.Proofs.Ytcjddikalgnhpaa.P Go.Proofs.YtcjddikalgnhpaaW.PrintWords Go.Proofs.YtcjddikalgnhpaaW.PrintLast Go.Proofs.YtcjddikalgnhpaaW.PrintMore Go.Proofs.Ytcjddikalgnhpaa.Gr
theorem drawCorner_cm {C : List Int} (hC : Code8 C) : Cm (fun k => spec_DrawIsCorner.f k C) (fun r => r.2.1.length ≤ 200 ∧ r.2.2.1.length ≤ 9) := by
  unfold spec_DrawIsCorner.f spec_DrawIsCorner.st
  refine Cm.bind (P := fun r => r.2.1.length ≤ 200 ∧ r.2.2.1.length ≤ 9) ?_ (fun r h => Cm.now h)
  refine Cm.bind (fieldDr_cm hC 0 0 (by omega) (by omega)) ?_
  rintro ⟨n, l, a, s⟩ ⟨hl, a0, a1⟩
  dsimp only at hl a0 a1 ⊢
  refine Cm.bind (nodesDr_cm hC a s n l (by omega) (by omega)) ?_
  rintro ⟨L, a2, s2⟩ ⟨hL, b0, b1⟩
  dsimp only at hL b0 b1 ⊢
  have no : ∀ a3 s3, 0 ≤ a3 → a3 ≤ 10000 → Cm (fun k => spec_DrawIsCorner.j0 k L false C a3 s3 n l) (fun r => r.2.1.length ≤ 200 ∧ r.2.2.1.length ≤ 9) := fun a3 s3 g0 g1 => by
    refine Cm.step (fun k => by simp only [spec_DrawIsCorner.j0, Bool.false_eq_true, if_false]; try rfl) (Cm.bind (nodeDr_cm hC a3 s3 n l (by omega) (by omega)) ?_)
    rintro ⟨y, a4, s4⟩ _
    exact Cm.now ⟨hl, hL⟩
  refine Cm.ite (fun hp => Cm.bind (one_cm hC a2 s2 8 (by omega) (by omega) (by omega) (by omega)) ?_) (fun _ => no a2 s2 (by omega) (by omega))
  rintro ⟨o, a3, s3⟩ ⟨o0, o1⟩
  dsimp only at o0 o1 ⊢
  cases o with
  | true => exact no a3 s3 (by omega) (by omega)
  | false =>
    refine Cm.step (fun k => by simp only [spec_DrawIsCorner.j0, Bool.not_false, if_true]; try rfl) (Cm.bind (pick_cm hC a3 s3 L.length (by omega) (by omega) (by omega) (by omega)) ?_)
    rintro ⟨y, a4, s4⟩ ⟨y0, y1, _, _⟩
    dsimp only at y0 y1 ⊢
    exact Cm.pos y0 (Cm.pos y1 (Cm.now ⟨hl, hL⟩))
theorem drawCovers_cm {C : List Int} (hC : Code8 C) : Cm (fun k => spec_DrawCoversOf.f k C) (fun r => r.2.1.length ≤ 200) := by
  unfold spec_DrawCoversOf.f spec_DrawCoversOf.st
  refine Cm.bind (P := fun r => r.2.1.length ≤ 200) ?_ (fun r h => Cm.now h)
  refine Cm.bind (fieldDr_cm hC 0 0 (by omega) (by omega)) ?_
  rintro ⟨n, l, a, s⟩ ⟨hl, a0, a1⟩
  dsimp only at hl a0 a1 ⊢
  refine Cm.bind (nodeDr_cm hC a s n l (by omega) (by omega)) ?_
  rintro ⟨y, a4, s4⟩ _
  exact Cm.now hl
theorem strip_loop (s : Int) (l a : List S71) (P : Int → Bool) (hl : l.length ≤ 1048576) (hG : Gr.Good s l) (hI : Ev (fun k => impl_IsGraph.f k s l) true) (ha : a.length ≤ 8) : ∀ (rest : List S71) (n : Nat) (Q : Int → Bool) (i : Int), 0 ≤ i → a.drop i.toNat = rest → ((V s).filter Q).length ≤ n → stripF s l n Q = (rest, P) → Cm (fun k => laws_FnCorners.l0 k a ((V s).filter P) ((V s).filter Q) i s l) (fun r => r = true) := by
  have h8 := hG.2.1
  intro rest
  induction rest with
  | nil =>
    intro n Q i i0 hd hn hs
    obtain ⟨hc, rfl⟩ := strip_end hn hs
    have hlen : ((V s).filter P).length ≤ s.toNat := VF_len
    have hi : ¬ i < (a.length : Int) := by
      have := List.drop_eq_nil_iff.1 hd
      omega
    have ec := corners_of s l P hl hG hI
    rw [hc] at ec
    refine Cm.step (fun k => by simp only [laws_FnCorners.l0, if_neg hi]; try rfl) (Cm.bindE ec (Cm.bindE (vInts_same ((V s).filter P) (by omega)) (Cm.pos rfl ?_)))
    exact Cm.now (by rfl)
  | cons e rest ih =>
    intro n Q i i0 hd hn hs
    obtain ⟨n', t, hc, hQ, hCov, hx, hw, hs'⟩ := strip_cons hn hs
    have hlen : ((V s).filter Q).length ≤ s.toNat := VF_len
    have hi : i < (a.length : Int) := by
      have : (a.drop i.toNat).length = rest.length + 1 := by rw [hd]; rfl
      rw [List.length_drop] at this
      omega
    have hrd : rd_T71 a i = e := by
      have h1 := rd_lt a i i0 hi
      rw [List.drop_eq_getElem_cons (by omega)] at hd
      injection hd with h2 _
      rw [List.getElem?_eq_getElem (by omega), h2] at h1
      exact (Option.some.inj h1).symm
    have hd' : a.drop (i + 1).toNat = rest := by
      rw [List.drop_eq_getElem_cons (by omega)] at hd
      injection hd with _ h2
      rw [show (i + 1).toNat = i.toNat + 1 by omega]
      exact h2
    have ec := corners_of s l Q hl hG hI
    rw [hc] at ec
    have hcl : cl l e.f0 e.f1 = true := by
      rw [cl_symm]
      exact hCov.2.2.2 e.f0 hx.1 hx.2 (cl_self l e.f0) hQ
    have hmem : e.f1 ∈ (V s).filter Q := mem_VF.2 ⟨hCov.2.1, hCov.2.2.1⟩
    refine Cm.step (fun k => by simp only [laws_FnCorners.l0, if_pos hi, hrd]; try rfl) (Cm.bindE ec ?_)
    refine Cm.neg (by rw [List.length_cons]; omega) (Cm.pos (by rw [List.length_cons]; omega) (Cm.pos i0 (Cm.pos rfl (Cm.bindE (vHas_ev _ e.f1 (by omega)) (Cm.pos (decide_eq_true hmem) (Cm.bindE (vNear_ev s l e.f0 e.f1 hl) ?_))))))
    rw [hcl]
    refine Cm.step (fun k => by simp only [laws_FnCorners.j3, Bool.not_true, Bool.false_eq_true, if_false]; try rfl) ?_
    obtain ⟨L, hL⟩ : ∃ L, L = (V s).filter Q := ⟨_, rfl⟩
    have hfin : L.filter (fun y => !(y == e.f0)) = (V s).filter (without Q e.f0) := by rw [hL, List.filter_filter]; exact List.filter_congr (fun y _ => Bool.and_comm _ _)
    rw [← hL] at hlen ⊢
    refine Cm.up (fun k j z => laws_FnCorners.l1 k a ((V s).filter P) L i z j s l) L.length (fun j z => 0 ≤ j ∧ z = (L.take j.toNat).filter (fun y => !(y == e.f0))) _ ?_ 0 [] (by omega) ⟨by omega, rfl⟩
    rintro j z hj ⟨j0, rfl⟩ ih2
    have hal : ((L.take j.toNat).filter (fun y => !(y == e.f0))).length ≤ L.length := Nat.le_trans (List.length_filter_le _ _) (by rw [List.length_take]; omega)
    by_cases h : j < L.length
    · by_cases e' : rd L j = e.f0
      · refine Cm.step (fun k => by simp (disch := omega) only [laws_FnCorners.l1, if_pos h, if_pos j0, if_pos i0, if_pos hi, hrd, if_pos e', w64 (j + 1)]; try rfl) (ih2 _ h ⟨by omega, ?_⟩)
        rw [take_rd L j j0 h, List.filter_append, List.filter_cons, e']
        simp
      · refine Cm.step (fun k => by simp (disch := omega) only [laws_FnCorners.l1, if_pos h, if_pos j0, if_pos i0, if_pos hi, hrd, if_neg e', w64 (j + 1), if_pos]; try rfl) (ih2 _ h ⟨by omega, ?_⟩)
        have e2 : (rd L j == e.f0) = false := by simpa using e'
        rw [take_rd L j j0 h, List.filter_append, List.filter_cons, e2]
        rfl
    · refine Cm.step (fun k => by simp only [laws_FnCorners.l1, if_neg h]; try rfl) ?_
      rw [take_all L j (by omega), hfin, w64 (i + 1) (by omega) (by omega)]
      exact ih n' (without Q e.f0) (i + 1) (by omega) hd' hw hs'
theorem FnCorners : laws_FnCorners.Pure := by
  intro C _ hx
  refine Ev.rounds (Cm.ev ?_)
  unfold laws_FnCorners.f laws_vBig.f
  refine Cm.bindE (Ev.now _) (Cm.ite (fun _ => Cm.now rfl) (fun h => ?_))
  have hU : Code8 C := code_of (by rw [decide_eq_true_eq] at h; omega) hx
  refine Cm.bind (drawCorner_cm hU) ?_
  rintro ⟨s, l, L, x⟩ ⟨hl, hL⟩
  dsimp only at hl hL ⊢
  obtain ⟨b0, hb0, hS0, hI0⟩ := both_sets s l L (by omega) (by omega)
  obtain ⟨r, b, h1, E1, E2⟩ := corner_ex s l L x (by omega) (by omega) b0 hb0 hS0 hI0
  obtain ⟨r2, hr2, h2, E3, E4⟩ := corners_ex s l L (by omega) (by omega) b0 hb0 hS0 hI0
  refine Cm.bindE E2 (Cm.bindE E1 (Cm.bindE E4 (Cm.bindE E3 ?_)))
  obtain ⟨D, eD, hD⟩ := cut_ok hU 1 (by omega) (by omega)
  rw [eD]
  refine Cm.bindE (Ev.now _) (Cm.bind (drawCovers_cm hD) ?_)
  rintro ⟨t, m, y⟩ hm
  dsimp only at hm ⊢
  obtain ⟨r3, b3, hr3, E5, E6⟩ := covers_both t m y (by omega)
  obtain ⟨a, c, b4, ha, hc, h4, E7, E8, E9, E10⟩ := strip_ex s l (by omega)
  refine Cm.bindE E6 (Cm.bindE E5 (Cm.bindE E8 (Cm.bindE E7 (Cm.bindE E10 (Cm.bindE E9 ?_)))))
  have nb : ∀ q : Bool, ¬ (q != q) = true := fun q => by cases q <;> decide
  refine Cm.neg (nb r) (Cm.neg (nb b) (Cm.neg (nb b0) (Cm.bindE (vInts_same r2 (by omega)) (Cm.pos rfl (Cm.neg (nb b3) (Cm.bindE (vInts_same r3 hr3) (Cm.pos rfl (Cm.neg (nb b4) (Cm.bindE (vPairs_same a (by omega)) (Cm.pos rfl (Cm.neg (nb b4) (Cm.bindE (vInts_same c (by omega)) ?_))))))))))))
  refine Cm.step (fun k => by simp only [laws_FnCorners.j0, Bool.not_true, Bool.false_eq_true, if_false]; try rfl) ?_
  have fin : Cm (fun k => laws_FnCorners.j1 k a b4 c false s l) (fun z => z = true) := by
    refine Cm.step (fun k => by simp only [laws_FnCorners.j1, Bool.false_eq_true, if_false]; try rfl) (Cm.ite (fun hb => ?_) (fun _ => Cm.now rfl))
    obtain ⟨hG, hI, P, hP, rfl⟩ := h4 hb
    have hlen : ((V s).filter (fun _ => true)).length ≤ s.toNat := VF_len
    have h8 := hG.2.1
    refine Cm.pos hG.1 (Cm.bindE (vAll_ev s hG.1 h8) (strip_loop s l a P (by omega) hG hI ha a 8 (fun _ => true) 0 (by omega) rfl (by omega) hP))
  refine Cm.ite (fun hb => ?_) (fun _ => fin)
  obtain ⟨e0, hxL, hr⟩ := h1 hb
  refine Cm.pos e0 (Cm.bindE (vHas_ev r2 x (by omega)) ?_)
  have hset := (hb0 e0).2.2
  have e : (r != decide (x ∈ r2)) = false := by
    rw [h2 e0, hr]
    have : hasC s l (inL L) x = decide (x ∈ corn s l (inL L)) := by
      unfold corn
      rw [Bool.eq_iff_iff, decide_eq_true_iff, mem_VF, Bool.and_eq_true]
      unfold inL
      exact ⟨fun h => ⟨hset.1 x hxL, decide_eq_true hxL, h⟩, fun h => h.2.2⟩
    rw [this]
    cases decide (x ∈ corn s l (inL L)) <;> rfl
  rw [e]
  exact fin
end Go.Proofs.Ytcjddikalgnhpaa.Pure
