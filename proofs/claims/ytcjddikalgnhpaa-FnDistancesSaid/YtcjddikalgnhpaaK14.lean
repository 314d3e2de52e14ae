/- Functions of the program as Lean functions, that each call comes to what they say, and what holds of them; part 14 of 16; no conditions beyond those that each theorem names. -/
import Derived.KernelRfl
import Derived.Laws.BitsLemmas
import Derived.Test.YtcjddikalgnhpaaK1
import Derived.Test.YtcjddikalgnhpaaK2
import Derived.Test.YtcjddikalgnhpaaK4
import Derived.Test.YtcjddikalgnhpaaK5
import Derived.Test.YtcjddikalgnhpaaK6
import Derived.Test.YtcjddikalgnhpaaK11
namespace Go.Proofs.Ytcjddikalgnhpaa.Gr
open Go.RowKit Go.Proofs.Ytcjddikalgnhpaa.P Go.Proofs.YtcjddikalgnhpaaW.PrintWords Go.Proofs.YtcjddikalgnhpaaW.PrintLast
theorem l1In_eq (a lo hi : Int) : spec_l1In.f a lo hi = some (decide (lo ≤ a ∧ a ≤ hi)) := by
  unfold spec_l1In.f
  by_cases h : a ≥ lo
  · rw [if_pos h]
    simp [show lo ≤ a from h]
  · rw [if_neg h]
    simp [show ¬ lo ≤ a from h]
theorem sz_ev {a : Option Int} {r : Int} (h : a = some r) : Ev (fun _ => a) r := ⟨0, fun _ _ => h⟩
theorem rd_lt (l : List S71) (i : Int) (h0 : 0 ≤ i) (h1 : i < l.length) : l[i.toNat]? = some (rd_T71 l i) := by
  unfold rd_T71
  rw [List.getD_eq_getElem?_getD, List.getElem?_eq_getElem (by omega)]
  rfl
theorem pcmp_iff (a b : S71) : 0 ≤ pcmp a b ↔ ¬ (a.f0 < b.f0 ∨ (a.f0 = b.f0 ∧ a.f1 < b.f1)) := by
  unfold pcmp
  by_cases c1 : a.f0 < b.f0
  · simp [c1]
  · by_cases c2 : a.f0 > b.f0
    · have h : ¬ a.f0 = b.f0 := by omega
      simp [c1, c2, h]
    · have h : a.f0 = b.f0 := by omega
      by_cases c3 : a.f1 < b.f1
      · simp [c3, h]
      · by_cases c4 : a.f1 > b.f1
        · simp [c3, c4, h]
        · simp [c3, c4, h]
theorem before_eq (a b c d : Int) : spec_l2Before.f a b c d = some (decide (a < c ∨ (a = c ∧ b < d))) := by
  unfold spec_l2Before.f
  by_cases c1 : a < c
  · simp [c1]
  · by_cases c2 : a = c
    · subst c2
      simp
    · simp [c1, c2]
theorem good_both (l : List S71) (s : Int) (h0 : 0 ≤ s) (h8 : s ≤ 8) (hl : l.length ≤ 1048576) : ∀ (d : Nat) (i : Int), 0 ≤ i → (l.length : Int) - i = d →
    ∃ b, (b = true → ∀ j : Int, i ≤ j → j < l.length → 0 ≤ (rd_T71 l j).f0 ∧ (rd_T71 l j).f0 < (rd_T71 l j).f1 ∧ (rd_T71 l j).f1 < s ∧ (0 < j → (rd_T71 l (j - 1)).f0 < (rd_T71 l j).f0 ∨ ((rd_T71 l (j - 1)).f0 = (rd_T71 l j).f0 ∧ (rd_T71 l (j - 1)).f1 < (rd_T71 l j).f1))) ∧ Ev (fun k => spec_l2Good.l0 k i s l) b ∧ Ev (fun k => impl_IsGraph.l0 k l s i) b := by
  intro d
  induction d with
  | zero =>
    intro i hi hd
    have hn : ¬ i < (l.length : Int) := by omega
    refine ⟨true, fun _ j h1 h2 => by omega, Ev.step (f := fun _ => some true) (fun k => ?_) (Ev.now true), Ev.step (f := fun _ => some true) (fun k => ?_) (Ev.now true)⟩
    · simp only [spec_l2Good.l0]
      rw [if_neg hn, l1In_eq, Option.bind_some, decide_eq_true ⟨h0, h8⟩]
    · simp only [impl_IsGraph.l0]
      rw [if_neg hn]
  | succ d ih =>
    intro i hi hd
    have hp : i < (l.length : Int) := by omega
    obtain ⟨b, hg, hs, hm⟩ := ih (i + 1) (by omega) (by omega)
    have hw : wrap64 (i + 1) = i + 1 := by unfold wrap64; omega
    have hw1 : wrap64 (i - 1) = i - 1 := by unfold wrap64; omega
    have hw2 : wrap64 (s - 1) = s - 1 := by unfold wrap64; omega
    have no : ∀ k, (0 ≤ (rd_T71 l i).f0 ∧ (rd_T71 l i).f0 < (rd_T71 l i).f1 ∧ (rd_T71 l i).f1 < s ∧ (0 < i → (rd_T71 l (i - 1)).f0 < (rd_T71 l i).f0 ∨ ((rd_T71 l (i - 1)).f0 = (rd_T71 l i).f0 ∧ (rd_T71 l (i - 1)).f1 < (rd_T71 l i).f1))) ∨
        (spec_l2Good.l0 (k + 1) i s l = some false ∧ impl_IsGraph.l0 (k + 1) l s i = some false) := by
      intro k
      simp only [spec_l2Good.l0, impl_IsGraph.l0, l1In_eq, before_eq, hw, hw1, hw2, pcmp_iff, if_pos hp, if_pos hi, Option.bind_some, decide_eq_true_eq]
      by_cases c1 : 0 ≤ (rd_T71 l i).f0
      · by_cases c2 : (rd_T71 l i).f0 < (rd_T71 l i).f1
        · by_cases c3 : (rd_T71 l i).f1 < s
          · by_cases c4 : 0 < i
            · by_cases c5 : (rd_T71 l (i - 1)).f0 < (rd_T71 l i).f0 ∨ ((rd_T71 l (i - 1)).f0 = (rd_T71 l i).f0 ∧ (rd_T71 l (i - 1)).f1 < (rd_T71 l i).f1)
              · exact .inl ⟨c1, c2, c3, fun _ => c5⟩
              · right
                rw [if_pos ⟨c1, by omega⟩, if_pos ⟨by omega, by omega⟩, if_neg (by omega), if_pos c4, if_pos (by omega), if_pos (by omega), if_neg c5, if_neg (by omega), if_neg (by omega), if_neg (by omega), if_pos c4, if_pos c5]
                exact ⟨rfl, rfl⟩
            · exact .inl ⟨c1, c2, c3, fun h => absurd h c4⟩
          · right
            refine ⟨?_, ?_⟩
            · by_cases c6 : 0 ≤ (rd_T71 l i).f0 ∧ (rd_T71 l i).f0 ≤ s - 1
              · rw [if_pos c6, if_neg (by omega)]
              · rw [if_neg c6]
            · rw [if_neg (by omega), if_neg (by omega), if_pos (by omega)]
        · right
          refine ⟨?_, ?_⟩
          · by_cases c6 : 0 ≤ (rd_T71 l i).f0 ∧ (rd_T71 l i).f0 ≤ s - 1
            · rw [if_pos c6]
              by_cases c7 : 0 ≤ (rd_T71 l i).f1 ∧ (rd_T71 l i).f1 ≤ s - 1
              · rw [if_pos c7, if_pos (by omega)]
              · rw [if_neg c7]
            · rw [if_neg c6]
          · rw [if_neg (by omega), if_pos (by omega)]
      · right
        rw [if_neg (by omega), if_pos (by omega)]
        exact ⟨rfl, rfl⟩
    by_cases hc : 0 ≤ (rd_T71 l i).f0 ∧ (rd_T71 l i).f0 < (rd_T71 l i).f1 ∧ (rd_T71 l i).f1 < s ∧ (0 < i → (rd_T71 l (i - 1)).f0 < (rd_T71 l i).f0 ∨ ((rd_T71 l (i - 1)).f0 = (rd_T71 l i).f0 ∧ (rd_T71 l (i - 1)).f1 < (rd_T71 l i).f1))
    · obtain ⟨c1, c2, c3, c5⟩ := hc
      refine ⟨b, fun hb j h1 h2 => ?_, Ev.step (fun k => ?_) hs, Ev.step (fun k => ?_) hm⟩
      · by_cases hj : j = i
        · subst hj
          exact ⟨c1, c2, c3, c5⟩
        · exact hg hb j (by omega) h2
      · simp only [spec_l2Good.l0, l1In_eq, before_eq, hw, hw1, hw2, if_pos hp, if_pos hi, Option.bind_some, decide_eq_true_eq]
        rw [if_pos ⟨c1, by omega⟩, if_pos ⟨by omega, by omega⟩, if_neg (by omega)]
        by_cases c4 : i > 0
        · rw [if_pos c4, if_pos (by omega), if_pos (by omega), if_pos (c5 c4)]
        · rw [if_neg c4]
      · simp only [impl_IsGraph.l0, hw, hw1, pcmp_iff, if_pos hp, if_pos hi]
        rw [if_neg (by omega), if_neg (by omega), if_neg (by omega)]
        by_cases c4 : i > 0
        · rw [if_pos c4, if_neg (fun h => h (c5 c4))]
        · rw [if_neg c4]
    · refine ⟨false, fun h => (by cases h), Ev.step (f := fun _ => some false) (fun k => ?_) (Ev.now false), Ev.step (f := fun _ => some false) (fun k => ?_) (Ev.now false)⟩
      · rcases no k with h | h
        · exact absurd h hc
        · exact h.1
      · rcases no k with h | h
        · exact absurd h hc
        · exact h.2
theorem good_not (l : List S71) (s : Int) (h8 : ¬ (0 ≤ s ∧ s ≤ 8)) (hl : l.length ≤ 1048576) : ∀ (d : Nat) (i : Int), 0 ≤ i → (l.length : Int) - i = d →
    Ev (fun k => spec_l2Good.l0 k i s l) false := by
  intro d
  induction d with
  | zero =>
    intro i hi hd
    have hn : ¬ i < (l.length : Int) := by omega
    refine Ev.step (f := fun _ => some false) (fun k => ?_) (Ev.now false)
    simp only [spec_l2Good.l0]
    rw [if_neg hn, l1In_eq, Option.bind_some, decide_eq_false h8]
  | succ d ih =>
    intro i hi hd
    have hp : i < (l.length : Int) := by omega
    have hw : wrap64 (i + 1) = i + 1 := by unfold wrap64; omega
    have hw1 : wrap64 (i - 1) = i - 1 := by unfold wrap64; omega
    have hr := ih (i + 1) (by omega) (by omega)
    have one : ∀ k, spec_l2Good.l0 (k + 1) i s l = some false ∨ spec_l2Good.l0 (k + 1) i s l = spec_l2Good.l0 k (i + 1) s l := by
      intro k
      simp only [spec_l2Good.l0, l1In_eq, before_eq, hw, hw1, if_pos hp, if_pos hi, Option.bind_some, decide_eq_true_eq]
      repeat' split
      all_goals first | exact .inl rfl | exact .inr rfl | (exfalso; omega)
    obtain ⟨K, hK⟩ := hr
    refine ⟨K + 1, fun k hk => ?_⟩
    obtain ⟨k, rfl⟩ : ∃ m, k = m + 1 := ⟨k - 1, by omega⟩
    rcases one k with h | h
    · exact h
    · exact h.trans (hK k (by omega))
/-- A good graph: at most eight nodes, each edge from a lower node to a higher one. -/
def Good (s : Int) (l : List S71) : Prop := 0 ≤ s ∧ s ≤ 8 ∧ ∀ j : Int, 0 ≤ j → j < l.length → 0 ≤ (rd_T71 l j).f0 ∧ (rd_T71 l j).f0 < (rd_T71 l j).f1 ∧ (rd_T71 l j).f1 < s
/-- Its pairs stand in order. -/
def Sorted (l : List S71) : Prop := ∀ j : Int, 0 < j → j < l.length → (rd_T71 l (j - 1)).f0 < (rd_T71 l j).f0 ∨ ((rd_T71 l (j - 1)).f0 = (rd_T71 l j).f0 ∧ (rd_T71 l (j - 1)).f1 < (rd_T71 l j).f1)
theorem isGraph_full (s : Int) (l : List S71) (hlen : l.length ≤ 1048576) : ∃ b, (b = true → Good s l ∧ Sorted l) ∧ Ev (fun k => spec_l2Good.f k s l) b ∧ Ev (fun k => impl_IsGraph.f k s l) b := by
  by_cases h8 : 0 ≤ s ∧ s ≤ 8
  · obtain ⟨b, hg, hA, hB⟩ := good_both l s h8.1 h8.2 hlen l.length 0 (by omega) (by omega)
    refine ⟨b, fun h => ⟨⟨h8.1, h8.2, fun j h0 h1 => ⟨(hg h j h0 h1).1, (hg h j h0 h1).2.1, (hg h j h0 h1).2.2.1⟩⟩, fun j h0 h1 => (hg h j (by omega) h1).2.2.2 h0⟩, ?_, ?_⟩
    · obtain ⟨K, hK⟩ := hA
      dsimp only at hK
      exact ⟨K, fun k hk => by dsimp only; unfold spec_l2Good.f; exact hK k hk⟩
    · obtain ⟨K, hK⟩ := hB
      dsimp only at hK
      exact ⟨K, fun k hk => by dsimp only; unfold impl_IsGraph.f; rw [if_pos h8]; exact hK k hk⟩
  · refine ⟨false, fun h => (by cases h), ?_, ⟨0, fun k _ => by dsimp only; unfold impl_IsGraph.f; rw [if_neg h8]⟩⟩
    obtain ⟨K, hK⟩ := good_not l s h8 hlen l.length 0 (by omega) (by omega)
    dsimp only at hK
    exact ⟨K, fun k hk => by dsimp only; unfold spec_l2Good.f; exact hK k hk⟩
theorem isGraph_both (s : Int) (l : List S71) (hlen : l.length ≤ 1048576) : ∃ b, (b = true → Good s l) ∧ Ev (fun k => spec_l2Good.f k s l) b ∧ Ev (fun k => impl_IsGraph.f k s l) b := by
  obtain ⟨b, h1, h2, h3⟩ := isGraph_full s l hlen
  exact ⟨b, fun h => (h1 h).1, h2, h3⟩
end Go.Proofs.Ytcjddikalgnhpaa.Gr
namespace Go.Proofs.Ytcjddikalgnhpaa.Gr
open Go.RowKit Go.Proofs.Ytcjddikalgnhpaa.P Go.Proofs.YtcjddikalgnhpaaW.PrintWords Go.Proofs.YtcjddikalgnhpaaW.PrintLast Go.Proofs.YtcjddikalgnhpaaW.PrintMore
/-- Is the edge u, v among the first d pairs from i on? -/
def nearF (l : List S71) (u v : Int) : Nat → Int → Bool
  | 0, _ => false
  | d + 1, i => ((rd_T71 l i).f0 == u && (rd_T71 l i).f1 == v) || ((rd_T71 l i).f0 == v && (rd_T71 l i).f1 == u) || nearF l u v d (i + 1)
def near (l : List S71) (u v : Int) : Bool := nearF l u v l.length 0
theorem near_loop (s : Int) (l : List S71) (u v : Int) (hl : l.length ≤ 1048576) : ∀ (d : Nat) (i : Int), 0 ≤ i → (l.length : Int) - i = d → Ev (fun k => spec_l2Near.l0 k u v i s l) (nearF l u v d i) := by
  intro d
  induction d with
  | zero =>
    intro i hi hd
    refine Ev.step (f := fun _ => some false) (fun k => ?_) (Ev.now false)
    simp only [spec_l2Near.l0]
    rw [if_neg (by omega)]
  | succ d ih =>
    intro i hi hd
    have hp : i < (l.length : Int) := by omega
    have hw : wrap64 (i + 1) = i + 1 := by unfold wrap64; omega
    have hr := ih (i + 1) (by omega) (by omega)
    by_cases hc : ((rd_T71 l i).f0 = u ∧ (rd_T71 l i).f1 = v) ∨ ((rd_T71 l i).f0 = v ∧ (rd_T71 l i).f1 = u)
    · have e : nearF l u v (d + 1) i = true := by
        unfold nearF
        rcases hc with ⟨h1, h2⟩ | ⟨h1, h2⟩ <;> simp [h1, h2]
      rw [e]
      refine Ev.step (f := fun _ => some true) (fun k => ?_) (Ev.now true)
      simp only [spec_l2Near.l0, if_pos hp, if_pos hi]
      repeat' split
      all_goals first | rfl | (exfalso; omega)
    · have e : nearF l u v (d + 1) i = nearF l u v d (i + 1) := by
        have h1 : ((rd_T71 l i).f0 == u && (rd_T71 l i).f1 == v) = false := by
          rw [Bool.and_eq_false_iff]
          by_cases h : (rd_T71 l i).f0 = u
          · right
            simp only [beq_eq_false_iff_ne]
            intro h'
            exact hc (.inl ⟨h, h'⟩)
          · left
            simpa using h
        have h2 : ((rd_T71 l i).f0 == v && (rd_T71 l i).f1 == u) = false := by
          rw [Bool.and_eq_false_iff]
          by_cases h : (rd_T71 l i).f0 = v
          · right
            simp only [beq_eq_false_iff_ne]
            intro h'
            exact hc (.inr ⟨h, h'⟩)
          · left
            simpa using h
        conv => lhs; unfold nearF
        rw [h1, h2]
        rfl
      rw [e]
      refine Ev.step (fun k => ?_) hr
      simp only [spec_l2Near.l0, if_pos hp, if_pos hi, hw]
      repeat' split
      all_goals first | rfl | (exfalso; omega)
theorem near_ev (s : Int) (l : List S71) (u v : Int) (hl : l.length ≤ 1048576) : Ev (fun k => spec_l2Near.f k s l u v) (near l u v) := by
  obtain ⟨K, hK⟩ := near_loop s l u v hl l.length 0 (by omega) (by omega)
  dsimp only at hK
  exact ⟨K, fun k hk => by dsimp only; unfold spec_l2Near.f; exact hK k hk⟩
/-- A node's bit in a mask. -/
def bit (m v : Int) : Bool := Go.bits .and .i64 (shr .i64 m v) 1 == 1
def put (m v : Int) : Int := Go.bits .or .i64 m (shl .i64 1 v)
theorem put_all : ((List.range 256).all fun m => (List.range 8).all fun w => (decide (0 ≤ put m w) && decide (put m w < 256)) && (List.range 8).all fun v => bit (put m w) v == (bit m v || v == w)) = true := by kernel_rfl
theorem zero_all : ((List.range 8).all fun v => bit 0 v == false) = true := by kernel_rfl
theorem put_ok (m w : Int) (h0 : 0 ≤ m) (h1 : m < 256) (h2 : 0 ≤ w) (h3 : w < 8) : 0 ≤ put m w ∧ put m w < 256 ∧ ∀ v : Int, 0 ≤ v → v < 8 → bit (put m w) v = (bit m v || v == w) := by
  have h := List.all_eq_true.1 put_all m.toNat (List.mem_range.2 (by omega))
  have h' := List.all_eq_true.1 h w.toNat (List.mem_range.2 (by omega))
  rw [Int.toNat_of_nonneg h0, Int.toNat_of_nonneg h2, Bool.and_eq_true, Bool.and_eq_true, decide_eq_true_eq, decide_eq_true_eq] at h'
  refine ⟨h'.1.1, h'.1.2, fun v hv0 hv1 => ?_⟩
  have h'' := List.all_eq_true.1 h'.2 v.toNat (List.mem_range.2 (by omega))
  rw [Int.toNat_of_nonneg hv0, beq_iff_eq] at h''
  rw [h'']
  congr 1
  rw [Bool.eq_iff_iff, beq_iff_eq, beq_iff_eq]
  omega
theorem bit_zero (v : Int) (h0 : 0 ≤ v) (h1 : v < 8) : bit 0 v = false := by
  have h := List.all_eq_true.1 zero_all v.toNat (List.mem_range.2 (by omega))
  rw [Int.toNat_of_nonneg h0, beq_iff_eq] at h
  exact h
end Go.Proofs.Ytcjddikalgnhpaa.Gr
namespace Go.Proofs.Ytcjddikalgnhpaa.Gr
open Go.RowKit Go.Proofs.Ytcjddikalgnhpaa.P Go.Proofs.YtcjddikalgnhpaaW.PrintWords Go.Proofs.YtcjddikalgnhpaaW.PrintLast
/-- With rounds enough, g answers something of which Q holds. -/
def Cm {α : Type} (g : Nat → Option α) (Q : α → Prop) : Prop := ∃ r, Ev g r ∧ Q r
theorem Cm.of {α : Type} {g : Nat → Option α} {Q : α → Prop} {r : α} (h : Ev g r) (q : Q r) : Cm g Q := ⟨r, h, q⟩
theorem Cm.now {α : Type} {Q : α → Prop} {r : α} (q : Q r) : Cm (fun _ => some r) Q := ⟨r, Ev.now r, q⟩
theorem Cm.mono {α : Type} {g : Nat → Option α} {Q Q' : α → Prop} (h : Cm g Q) (k : ∀ r, Q r → Q' r) : Cm g Q' := by
  obtain ⟨r, h1, h2⟩ := h
  exact ⟨r, h1, k r h2⟩
theorem Cm.ev {α : Type} {g : Nat → Option α} {r : α} (h : Cm g (fun x => x = r)) : Ev g r := by
  obtain ⟨r', h1, rfl⟩ := h
  exact h1
theorem Ev.cm {α : Type} {g : Nat → Option α} {r : α} (h : Ev g r) : Cm g (fun x => x = r) := ⟨r, h, rfl⟩
theorem Cm.step {α : Type} {g f : Nat → Option α} {Q : α → Prop} (h : ∀ k, g (k + 1) = f k) (k : Cm f Q) : Cm g Q := by
  obtain ⟨r, h1, h2⟩ := k
  exact ⟨r, Ev.step h h1, h2⟩
theorem Cm.congr {α : Type} {g f : Nat → Option α} {Q : α → Prop} (h : ∀ k, g k = f k) (k : Cm f Q) : Cm g Q := by
  obtain ⟨r, h1, h2⟩ := k
  exact ⟨r, Ev.congr h h1, h2⟩
theorem Cm.pos {α : Type} {c : Prop} [Decidable c] {f g : Nat → Option α} {Q : α → Prop} (h : c) (k : Cm f Q) : Cm (fun n => if c then f n else g n) Q :=
  Cm.congr (fun _ => if_pos h) k
theorem Cm.neg {α : Type} {c : Prop} [Decidable c] {f g : Nat → Option α} {Q : α → Prop} (h : ¬ c) (k : Cm g Q) : Cm (fun n => if c then f n else g n) Q :=
  Cm.congr (fun _ => if_neg h) k
theorem Cm.ite {α : Type} {c : Prop} [Decidable c] {f g : Nat → Option α} {Q : α → Prop} (h : c → Cm f Q) (k : ¬ c → Cm g Q) : Cm (fun n => if c then f n else g n) Q := by
  by_cases hc : c
  · exact Cm.pos hc (h hc)
  · exact Cm.neg hc (k hc)
theorem Cm.bind {α β : Type} {f : Nat → Option α} {h : Nat → α → Option β} {P : α → Prop} {Q : β → Prop} (a : Cm f P) (k : ∀ x, P x → Cm (fun n => h n x) Q) : Cm (fun n => (f n).bind (h n)) Q := by
  obtain ⟨x, h1, h2⟩ := a
  obtain ⟨r, h3, h4⟩ := k x h2
  exact ⟨r, Ev.bind h1 h3, h4⟩
theorem Cm.bindE {α β : Type} {f : Nat → Option α} {h : Nat → α → Option β} {x : α} {Q : β → Prop} (a : Ev f x) (k : Cm (fun n => h n x) Q) : Cm (fun n => (f n).bind (h n)) Q := by
  obtain ⟨r, h3, h4⟩ := k
  exact ⟨r, Ev.bind a h3, h4⟩
/-- A loop: each state comes to Q if all states that are smaller do. -/
theorem Cm.meas {σ β : Type} (g : Nat → σ → Option β) (m : σ → Nat) (I : σ → Prop) (Q : σ → β → Prop)
    (hs : ∀ a, I a → (∀ b, I b → m b < m a → Cm (fun k => g k b) (Q b)) → Cm (fun k => g k a) (Q a)) : ∀ a, I a → Cm (fun k => g k a) (Q a) := by
  suffices h : ∀ n a, m a = n → I a → Cm (fun k => g k a) (Q a) from fun a ha => h _ a rfl ha
  intro n
  induction n using Nat.strongRecOn with
  | _ n ih =>
    intro a hn ha
    exact hs a ha (fun b hb hm => ih (m b) (by omega) b rfl hb)
/-- A loop that counts up to n. -/
theorem Cm.up {α β : Type} (g : Nat → Int → α → Option β) (n : Int) (I : Int → α → Prop) (Q : β → Prop)
    (hs : ∀ i a, i ≤ n → I i a → (∀ b, i < n → I (i + 1) b → Cm (fun k => g k (i + 1) b) Q) → Cm (fun k => g k i a) Q) (i : Int) (a : α) (hi : i ≤ n) (hI : I i a) : Cm (fun k => g k i a) Q := by
  obtain ⟨d, hd⟩ : ∃ d : Nat, n - i = d := ⟨(n - i).toNat, by omega⟩
  induction d generalizing i a with
  | zero => exact hs i a hi hI (fun b h _ => by omega)
  | succ d ih => exact hs i a hi hI (fun b h hb => ih (i + 1) b (by omega) hb (by omega))
theorem w64 (x : Int) (h1 : -9223372036854775808 ≤ x) (h2 : x ≤ 9223372036854775807) : wrap64 x = x := by
  unfold wrap64
  omega
/-- The numbers below n, in order. -/
def V (n : Int) : List Int := (List.range n.toNat).map Int.ofNat
theorem V_zero : V 0 = [] := rfl
theorem V_neg {n : Int} (h : n ≤ 0) : V n = [] := by unfold V; rw [show n.toNat = 0 by omega]; rfl
theorem V_succ {n : Int} (h : 0 ≤ n) : V (n + 1) = V n ++ [n] := by
  unfold V
  rw [show (n + 1).toNat = n.toNat + 1 by omega, List.range_succ, List.map_append]
  congr 1
  simp [Int.toNat_of_nonneg h]
theorem V_len (n : Int) : (V n).length = n.toNat := by unfold V; simp
theorem mem_V {n x : Int} : x ∈ V n ↔ 0 ≤ x ∧ x < n := by
  unfold V
  rw [List.mem_map]
  constructor
  · rintro ⟨a, h, rfl⟩
    have := List.mem_range.1 h
    have e : Int.ofNat a = (a : Int) := rfl
    omega
  · rintro ⟨h0, h1⟩
    exact ⟨x.toNat, List.mem_range.2 (by omega), Int.toNat_of_nonneg h0⟩
/-- Rising. -/
abbrev Up (l : List Int) : Prop := l.Pairwise (· < ·)
theorem V_up (n : Int) : Up (V n) := by
  unfold V Up
  rw [List.pairwise_map]
  exact List.Pairwise.imp (fun h => Int.ofNat_lt.2 h) List.pairwise_lt_range
theorem filter_up {l : List Int} (h : Up l) (p : Int → Bool) : Up (l.filter p) := List.Pairwise.filter p h
theorem up_ext : ∀ {a b : List Int}, Up a → Up b → (∀ x, x ∈ a ↔ x ∈ b) → a = b
  | [], [], _, _, _ => rfl
  | [], y :: b, _, _, h => by have := (h y).2 List.mem_cons_self; cases this
  | x :: a, [], _, _, h => by have := (h x).1 List.mem_cons_self; cases this
  | x :: a, y :: b, ha, hb, h => by
    have ha' := List.pairwise_cons.1 ha
    have hb' := List.pairwise_cons.1 hb
    have e : x = y := by
      rcases List.mem_cons.1 ((h x).1 List.mem_cons_self) with e | e
      · exact e
      · rcases List.mem_cons.1 ((h y).2 List.mem_cons_self) with e' | e'
        · exact e'.symm
        · have := hb'.1 x e
          have := ha'.1 y e'
          omega
    subst e
    congr 1
    refine up_ext ha'.2 hb'.2 (fun z => ⟨fun hz => ?_, fun hz => ?_⟩)
    · rcases List.mem_cons.1 ((h z).1 (List.mem_cons_of_mem _ hz)) with e | e
      · subst e; have := ha'.1 z hz; omega
      · exact e
    · rcases List.mem_cons.1 ((h z).2 (List.mem_cons_of_mem _ hz)) with e | e
      · subst e; have := hb'.1 z hz; omega
      · exact e
theorem mem_VF {n x : Int} {p : Int → Bool} : x ∈ (V n).filter p ↔ (0 ≤ x ∧ x < n) ∧ p x = true := by rw [List.mem_filter, mem_V]
theorem VF_congr {n : Int} {p q : Int → Bool} (h : ∀ x, 0 ≤ x → x < n → p x = q x) : (V n).filter p = (V n).filter q :=
  List.filter_congr (fun x hx => h x (mem_V.1 hx).1 (mem_V.1 hx).2)
theorem VF_succ {n : Int} {p : Int → Bool} (h : 0 ≤ n) : (V (n + 1)).filter p = (V n).filter p ++ (if p n = true then [n] else []) := by
  rw [V_succ h, List.filter_append, List.filter_cons]
  rfl
theorem VF_cut {m n : Int} {p : Int → Bool} (hmn : m ≤ n) (hp : ∀ x, m ≤ x → p x = false) : (V n).filter p = (V m).filter p :=
  up_ext (filter_up (V_up _) _) (filter_up (V_up _) _) (fun x => by
    rw [mem_VF, mem_VF]
    constructor
    · rintro ⟨⟨h0, h1⟩, h2⟩
      by_cases h : x < m
      · exact ⟨⟨h0, h⟩, h2⟩
      · rw [hp x (by omega)] at h2; cases h2
    · rintro ⟨⟨h0, h1⟩, h2⟩
      exact ⟨⟨h0, by omega⟩, h2⟩)
theorem VF_len {n : Int} {p : Int → Bool} : ((V n).filter p).length ≤ n.toNat := by
  have := List.length_filter_le p (V n)
  rw [V_len] at this
  exact this
/-- A rising list of numbers below n is a filter of them. -/
theorem up_filter {n : Int} {l : List Int} (h : Up l) (hm : ∀ x ∈ l, 0 ≤ x ∧ x < n) : l = (V n).filter (fun x => decide (x ∈ l)) :=
  up_ext h (filter_up (V_up _) _) (fun x => by
    rw [mem_VF, decide_eq_true_eq]
    exact ⟨fun hx => ⟨hm x hx, hx⟩, fun hx => hx.2⟩)
theorem up_nodup {l : List Int} (h : Up l) : l.Nodup := List.Pairwise.imp (fun h => by omega) h
theorem V_nodup (n : Int) : (V n).Nodup := up_nodup (V_up n)
theorem take_rd (l : List Int) (i : Int) (h0 : 0 ≤ i) (h1 : i < l.length) : l.take (i + 1).toNat = l.take i.toNat ++ [rd l i] := by
  rw [show (i + 1).toNat = i.toNat + 1 by omega, List.take_succ_eq_append_getElem (by omega)]
  congr 2
  unfold rd
  rw [List.getD_eq_getElem?_getD, List.getElem?_eq_getElem (by omega)]
  rfl
theorem take_all (l : List Int) (i : Int) (h : (l.length : Int) ≤ i) : l.take i.toNat = l := List.take_of_length_le (by omega)
theorem rd_mem (l : List Int) (i : Int) (h0 : 0 ≤ i) (h1 : i < l.length) : rd l i ∈ l := by
  unfold rd
  rw [List.getD_eq_getElem?_getD, List.getElem?_eq_getElem (by omega)]
  exact List.getElem_mem _
theorem mem_rd {l : List Int} {x : Int} (h : x ∈ l) : ∃ i : Int, 0 ≤ i ∧ i < l.length ∧ rd l i = x := by
  obtain ⟨j, hj, rfl⟩ := List.mem_iff_getElem.1 h
  refine ⟨j, by omega, by omega, ?_⟩
  unfold rd
  rw [List.getD_eq_getElem?_getD, Int.toNat_natCast, List.getElem?_eq_getElem hj]
  rfl
theorem rd_eq (l : List Int) (i : Nat) (h : i < l.length) : rd l i = l[i] := by
  unfold rd
  rw [List.getD_eq_getElem?_getD, Int.toNat_natCast, List.getElem?_eq_getElem h]
  rfl
theorem rd_ext {a b : List Int} (h : a.length = b.length) (e : ∀ i : Int, 0 ≤ i → i < a.length → rd a i = rd b i) : a = b := by
  apply List.ext_getElem h
  intro i h1 h2
  rw [← rd_eq a i h1, ← rd_eq b i h2]
  exact e i (by omega) (by omega)
theorem up_rd {l : List Int} (h : Up l) (i j : Int) (h0 : 0 ≤ i) (h1 : i < j) (h2 : j < l.length) : rd l i < rd l j := by
  have := List.pairwise_iff_getElem.1 h i.toNat j.toNat (by omega) (by omega) (by omega)
  rw [← rd_eq l _ (by omega), ← rd_eq l _ (by omega), Int.toNat_of_nonneg h0, Int.toNat_of_nonneg (by omega)] at this
  exact this
theorem up_of_rd {l : List Int} (h : ∀ i : Int, 0 < i → i < l.length → rd l (i - 1) < rd l i) : Up l := by
  have key : ∀ (d : Nat) (i : Int), 0 ≤ i → i + (d : Int) + 1 < l.length → rd l i < rd l (i + d + 1) := by
    intro d
    induction d with
    | zero =>
      intro i h0 h1
      have := h (i + 1) (by omega) (by omega)
      rw [show i + 1 - 1 = i by omega] at this
      simpa using this
    | succ d ih =>
      intro i h0 h1
      have a := ih i h0 (by omega)
      have b := h (i + (d : Int) + 1 + 1) (by omega) (by omega)
      rw [show i + (d : Int) + 1 + 1 - 1 = i + d + 1 by omega] at b
      rw [show i + ((d + 1 : Nat) : Int) + 1 = i + (d : Int) + 1 + 1 by omega]
      omega
  refine List.pairwise_iff_getElem.2 (fun i j hi hj hij => ?_)
  have := key (j - i - 1) i (by omega) (by omega)
  rw [show (i : Int) + ((j - i - 1 : Nat) : Int) + 1 = (j : Int) by omega] at this
  rw [← rd_eq l i hi, ← rd_eq l j hj]
  exact this
/-- A list as long as a list of different numbers that are all in it has no others. -/
theorem sub_all : ∀ {a b : List Int}, a.Nodup → (∀ x ∈ a, x ∈ b) → b.length ≤ a.length → ∀ x ∈ b, x ∈ a
  | [], b, _, _, hl, x, hx => by
    have : b = [] := List.length_eq_zero_iff.1 (by simpa using hl)
    subst this
    exact hx
  | y :: a, b, hn, hs, hl, x, hx => by
    have hn' := List.nodup_cons.1 hn
    have hy := hs y List.mem_cons_self
    by_cases e : x = y
    · subst e; exact List.mem_cons_self
    · have h1 : ∀ z ∈ a, z ∈ b.erase y := fun z hz => (List.mem_erase_of_ne (show z ≠ y from fun e' => hn'.1 (by rw [← e']; exact hz))).2 (hs z (List.mem_cons_of_mem _ hz))
      have h2 : (b.erase y).length ≤ a.length := by
        rw [List.length_erase_of_mem hy]
        rw [List.length_cons] at hl
        omega
      exact List.mem_cons_of_mem _ (sub_all hn'.2 h1 h2 x ((List.mem_erase_of_ne e).2 hx))
theorem nodup_le : ∀ {a b : List Int}, a.Nodup → (∀ x ∈ a, x ∈ b) → a.length ≤ b.length
  | [], _, _, _ => by simp
  | y :: a, b, hn, hs => by
    have hn' := List.nodup_cons.1 hn
    have hy := hs y List.mem_cons_self
    have h1 : ∀ z ∈ a, z ∈ b.erase y := fun z hz => (List.mem_erase_of_ne (show z ≠ y from fun e' => hn'.1 (by rw [← e']; exact hz))).2 (hs z (List.mem_cons_of_mem _ hz))
    have h2 := nodup_le hn'.2 h1
    rw [List.length_erase_of_mem hy] at h2
    have h3 : 0 < b.length := List.length_pos_of_mem hy
    rw [List.length_cons]
    omega
end Go.Proofs.Ytcjddikalgnhpaa.Gr
namespace Go.Proofs.Ytcjddikalgnhpaa.Gr
open Go.RowKit Go.Proofs.Ytcjddikalgnhpaa.P Go.Proofs.YtcjddikalgnhpaaW.PrintWords Go.Proofs.YtcjddikalgnhpaaW.PrintLast Go.Proofs.YtcjddikalgnhpaaW.PrintMore
theorem wrap_small (n : Int) (h0 : 0 ≤ n) (h1 : n < 2 ^ 62) : IntKind.i64.wrap n = n := by
  exact (i64_w n).trans (w64 n (by omega) (by omega))
theorem bits_n (a b : Nat) (ha : a < 2 ^ 62) (hb : b < 2 ^ 62) : Go.bits .and .i64 a b = ((a &&& b : Nat) : Int) ∧ Go.bits .or .i64 a b = ((a ||| b : Nat) : Int) :=
  Go.bits_nat .i64 62 (by decide) (fun n h0 h1 => wrap_small n h0 (by exact_mod_cast h1)) a b ha hb
theorem bits_xor (a b : Nat) (ha : a < 2 ^ 62) (hb : b < 2 ^ 62) : Go.bits .xor .i64 a b = ((a ^^^ b : Nat) : Int) := by
  have hp : (2 : Nat) ^ 62 ≤ 2 ^ IntKind.i64.bits := Nat.pow_le_pow_right (by decide) (by decide)
  have ha' : a % 2 ^ IntKind.i64.bits = a := Nat.mod_eq_of_lt (Nat.lt_of_lt_of_le ha hp)
  have hb' : b % 2 ^ IntKind.i64.bits = b := Nat.mod_eq_of_lt (Nat.lt_of_lt_of_le hb hp)
  simp only [Go.bits, BitVec.ofInt_natCast, BitVec.toNat_xor, BitVec.toNat_ofNat, ha', hb']
  exact wrap_small _ (by omega) (by exact_mod_cast Nat.xor_lt_two_pow ha hb)
theorem bits_not (a b : Nat) (ha : a < 2 ^ 62) (hb : b < 2 ^ 62) : ∃ c : Nat, Go.bits .andNot .i64 a b = (c : Int) ∧ c ≤ a ∧ ∀ j, c.testBit j = (a.testBit j && !b.testBit j) := by
  have hp : (2 : Nat) ^ 62 ≤ 2 ^ IntKind.i64.bits := Nat.pow_le_pow_right (by decide) (by decide)
  have ha' : a % 2 ^ IntKind.i64.bits = a := Nat.mod_eq_of_lt (Nat.lt_of_lt_of_le ha hp)
  have hb' : b % 2 ^ IntKind.i64.bits = b := Nat.mod_eq_of_lt (Nat.lt_of_lt_of_le hb hp)
  refine ⟨(BitVec.ofNat IntKind.i64.bits a &&& ~~~BitVec.ofNat IntKind.i64.bits b).toNat, ?_, ?_, fun j => ?_⟩
  · simp only [Go.bits, BitVec.ofInt_natCast]
    refine wrap_small _ (by omega) ?_
    have : (BitVec.ofNat IntKind.i64.bits a &&& ~~~BitVec.ofNat IntKind.i64.bits b).toNat ≤ a := by
      rw [BitVec.toNat_and, BitVec.toNat_ofNat, ha']
      exact Nat.and_le_left
    exact_mod_cast Nat.lt_of_le_of_lt this ha
  · rw [BitVec.toNat_and, BitVec.toNat_ofNat, ha']
    exact Nat.and_le_left
  · rw [BitVec.testBit_toNat, BitVec.getLsbD_and, BitVec.getLsbD_not, BitVec.getLsbD_ofNat, BitVec.getLsbD_ofNat]
    by_cases hj : j < IntKind.i64.bits
    · simp [hj]
    · have h1 : a.testBit j = false := Nat.testBit_lt_two_pow (Nat.lt_of_lt_of_le ha (Nat.le_trans hp (Nat.pow_le_pow_right (by decide) (by omega))))
      simp [h1, hj]
theorem bit_tb (m v : Nat) (hm : m < 2 ^ 62) (hv : v ≤ 64) : bit m v = m.testBit v := by
  unfold bit shr
  rw [show IntKind.i64.bits = 64 from rfl, Int.toNat_natCast, Nat.min_eq_left hv]
  have e : (m : Int) / 2 ^ v = ((m / 2 ^ v : Nat) : Int) := by norm_cast
  rw [e]
  have := (bits_n (m / 2 ^ v) 1 (Nat.lt_of_le_of_lt (Nat.div_le_self _ _) hm) (by decide)).1
  rw [show ((1 : Nat) : Int) = 1 from rfl] at this
  rw [this, Nat.and_one_is_mod, Nat.testBit_eq_decide_div_mod_eq]
  rw [Bool.eq_iff_iff, beq_iff_eq, decide_eq_true_eq]
  omega
theorem bit_i (m v : Int) (h0 : 0 ≤ m) (hm : m < 256) (v0 : 0 ≤ v) (hv : v < 64) : bit m v = m.toNat.testBit v.toNat := by
  have := bit_tb m.toNat v.toNat (by omega) (by omega)
  rwa [Int.toNat_of_nonneg h0, Int.toNat_of_nonneg v0] at this
/-- A mask of eight bits. -/
abbrev M8 (m : Int) : Prop := 0 ≤ m ∧ m < 256
theorem bit_hi (m v : Int) (h : M8 m) (v0 : 8 ≤ v) (hv : v < 64) : bit m v = false := by
  rw [bit_i m v h.1 h.2 (by omega) hv]
  refine Nat.testBit_lt_two_pow (Nat.lt_of_lt_of_le (show m.toNat < 2 ^ 8 by omega) (Nat.pow_le_pow_right (by decide) (by omega)))
theorem and_ok (a b : Int) (ha : M8 a) (hb : M8 b) : M8 (Go.bits .and .i64 a b) ∧ ∀ v : Int, 0 ≤ v → v < 64 → bit (Go.bits .and .i64 a b) v = (bit a v && bit b v) := by
  have e := (bits_n a.toNat b.toNat (by omega) (by omega)).1
  rw [Int.toNat_of_nonneg ha.1, Int.toNat_of_nonneg hb.1] at e
  have hM : M8 (Go.bits .and .i64 a b) := by
    rw [e]
    have := @Nat.and_le_left a.toNat b.toNat
    constructor <;> omega
  refine ⟨hM, fun v v0 v1 => ?_⟩
  rw [bit_i _ v hM.1 hM.2 v0 v1, bit_i a v ha.1 ha.2 v0 v1, bit_i b v hb.1 hb.2 v0 v1, e, Int.toNat_natCast, Nat.testBit_and]
theorem or_ok (a b : Int) (ha : M8 a) (hb : M8 b) : M8 (Go.bits .or .i64 a b) ∧ ∀ v : Int, 0 ≤ v → v < 64 → bit (Go.bits .or .i64 a b) v = (bit a v || bit b v) := by
  have e := (bits_n a.toNat b.toNat (by omega) (by omega)).2
  rw [Int.toNat_of_nonneg ha.1, Int.toNat_of_nonneg hb.1] at e
  have hM : M8 (Go.bits .or .i64 a b) := by
    rw [e]
    have : a.toNat ||| b.toNat < 2 ^ 8 := Nat.or_lt_two_pow (by omega) (by omega)
    constructor <;> omega
  refine ⟨hM, fun v v0 v1 => ?_⟩
  rw [bit_i _ v hM.1 hM.2 v0 v1, bit_i a v ha.1 ha.2 v0 v1, bit_i b v hb.1 hb.2 v0 v1, e, Int.toNat_natCast, Nat.testBit_or]
theorem xor_ok (a b : Int) (ha : M8 a) (hb : M8 b) : M8 (Go.bits .xor .i64 a b) ∧ ∀ v : Int, 0 ≤ v → v < 64 → bit (Go.bits .xor .i64 a b) v = (bit a v ^^ bit b v) := by
  have e := bits_xor a.toNat b.toNat (by omega) (by omega)
  rw [Int.toNat_of_nonneg ha.1, Int.toNat_of_nonneg hb.1] at e
  have hM : M8 (Go.bits .xor .i64 a b) := by
    rw [e]
    have : a.toNat ^^^ b.toNat < 2 ^ 8 := Nat.xor_lt_two_pow (by omega) (by omega)
    constructor <;> omega
  refine ⟨hM, fun v v0 v1 => ?_⟩
  rw [bit_i _ v hM.1 hM.2 v0 v1, bit_i a v ha.1 ha.2 v0 v1, bit_i b v hb.1 hb.2 v0 v1, e, Int.toNat_natCast, Nat.testBit_xor]
theorem not_ok (a b : Int) (ha : M8 a) (hb : M8 b) : M8 (Go.bits .andNot .i64 a b) ∧ ∀ v : Int, 0 ≤ v → v < 64 → bit (Go.bits .andNot .i64 a b) v = (bit a v && !bit b v) := by
  obtain ⟨c, e, hc, ht⟩ := bits_not a.toNat b.toNat (by omega) (by omega)
  rw [Int.toNat_of_nonneg ha.1, Int.toNat_of_nonneg hb.1] at e
  have hM : M8 (Go.bits .andNot .i64 a b) := by
    rw [e]
    constructor <;> omega
  refine ⟨hM, fun v v0 v1 => ?_⟩
  rw [bit_i _ v hM.1 hM.2 v0 v1, bit_i a v ha.1 ha.2 v0 v1, bit_i b v hb.1 hb.2 v0 v1, e, Int.toNat_natCast, ht]
theorem mask_ext (a b : Int) (ha : M8 a) (hb : M8 b) (h : ∀ v : Int, 0 ≤ v → v < 8 → bit a v = bit b v) : a = b := by
  have : a.toNat = b.toNat := by
    refine Nat.eq_of_testBit_eq (fun j => ?_)
    by_cases hj : j < 8
    · have := h j (by omega) (by omega)
      rw [bit_i a j ha.1 ha.2 (by omega) (by omega), bit_i b j hb.1 hb.2 (by omega) (by omega), Int.toNat_natCast] at this
      exact this
    · rw [Nat.testBit_lt_two_pow (Nat.lt_of_lt_of_le (show a.toNat < 2 ^ 8 by omega) (Nat.pow_le_pow_right (by decide) (by omega))), Nat.testBit_lt_two_pow (Nat.lt_of_lt_of_le (show b.toNat < 2 ^ 8 by omega) (Nat.pow_le_pow_right (by decide) (by omega)))]
  omega
theorem one_all : ((List.range 8).all fun v => (decide (0 ≤ shl .i64 1 v) && decide (shl .i64 1 v < 256)) && (List.range 64).all fun u => bit (shl .i64 1 v) u == (u == v)) = true := by kernel_rfl
theorem one_ok (v : Int) (h0 : 0 ≤ v) (h1 : v < 8) : M8 (shl .i64 1 v) ∧ ∀ u : Int, 0 ≤ u → u < 64 → bit (shl .i64 1 v) u = (u == v) := by
  have h := List.all_eq_true.1 one_all v.toNat (List.mem_range.2 (by omega))
  rw [Int.toNat_of_nonneg h0, Bool.and_eq_true, Bool.and_eq_true, decide_eq_true_eq, decide_eq_true_eq] at h
  refine ⟨h.1, fun u u0 u1 => ?_⟩
  have h' := List.all_eq_true.1 h.2 u.toNat (List.mem_range.2 (by omega))
  rw [Int.toNat_of_nonneg u0, beq_iff_eq] at h'
  rw [h', Bool.eq_iff_iff, beq_iff_eq, beq_iff_eq]
  omega
theorem full_all : ((List.range 9).all fun n => (decide (0 ≤ wrap64 (shl .i64 1 n - 1)) && decide (wrap64 (shl .i64 1 n - 1) < 256)) && (List.range 64).all fun u => bit (wrap64 (shl .i64 1 n - 1)) u == decide (u < n)) = true := by kernel_rfl
theorem full_ok (n : Int) (h0 : 0 ≤ n) (h1 : n ≤ 8) : M8 (wrap64 (shl .i64 1 n - 1)) ∧ ∀ u : Int, 0 ≤ u → u < 64 → bit (wrap64 (shl .i64 1 n - 1)) u = decide (u < n) := by
  have h := List.all_eq_true.1 full_all n.toNat (List.mem_range.2 (by omega))
  rw [Int.toNat_of_nonneg h0, Bool.and_eq_true, Bool.and_eq_true, decide_eq_true_eq, decide_eq_true_eq] at h
  refine ⟨h.1, fun u u0 u1 => ?_⟩
  have h' := List.all_eq_true.1 h.2 u.toNat (List.mem_range.2 (by omega))
  rw [Int.toNat_of_nonneg u0, beq_iff_eq] at h'
  rw [h', decide_eq_decide]
  omega
theorem zero_ok : M8 0 ∧ ∀ v : Int, 0 ≤ v → v < 64 → bit 0 v = false := by
  refine ⟨by decide, fun v h0 h1 => ?_⟩
  rw [bit_i 0 v (by omega) (by omega) h0 h1]
  exact Nat.zero_testBit _
theorem set8_all : ((List.range 256).all fun m => impl_setOf.f 20 m == some ((V 8).filter (bit m))) = true := by kernel_rfl
/-- The nodes of a mask, in order. -/
theorem set8_ev (m : Int) (h : M8 m) : Ev (fun k => impl_setOf.f k m) ((V 8).filter (bit m)) := by
  have h' := List.all_eq_true.1 set8_all m.toNat (List.mem_range.2 (by omega))
  rw [Int.toNat_of_nonneg h.1, beq_iff_eq] at h'
  exact Ev.of (fun k => impl_setOf.mono m k) h'
theorem setP_ev (m : Int) (h : M8 m) (s : Int) (h8 : s ≤ 8) (p : Int → Bool) (hp : ∀ v : Int, 0 ≤ v → v < 8 → bit m v = (decide (v < s) && p v)) : Ev (fun k => impl_setOf.f k m) ((V s).filter p) := by
  have e : (V 8).filter (bit m) = (V s).filter p := by
    refine up_ext (filter_up (V_up _) _) (filter_up (V_up _) _) (fun x => ?_)
    rw [mem_VF, mem_VF]
    constructor
    · rintro ⟨⟨h0, h1⟩, h2⟩
      rw [hp x h0 h1, Bool.and_eq_true, decide_eq_true_eq] at h2
      exact ⟨⟨h0, h2.1⟩, h2.2⟩
    · rintro ⟨⟨h0, h1⟩, h2⟩
      exact ⟨⟨h0, by omega⟩, by rw [hp x h0 (by omega), h2, decide_eq_true h1]; rfl⟩
  rw [← e]
  exact set8_ev m h
theorem rd_set (m : List Int) (i j x : Int) (h0 : 0 ≤ i) (h1 : i < m.length) (h2 : 0 ≤ j) : rd (m.set i.toNat x) j = if i = j then x else rd m j := by
  unfold rd
  rw [List.getD_eq_getElem?_getD, List.getD_eq_getElem?_getD]
  by_cases h : i = j
  · subst h
    rw [List.getElem?_set_self (by omega), if_pos rfl]
    rfl
  · rw [List.getElem?_set_ne (by omega), if_neg h]
/-- Masks of n nodes. -/
def Masks (s : Int) (m : List Int) : Prop := (m.length : Int) = s ∧ ∀ u : Int, 0 ≤ u → u < s → 0 ≤ rd m u ∧ rd m u < 256
theorem net_loop (s : Int) (l : List S71) (hl : l.length ≤ 1048576) (hg : Good s l) : ∀ (d : Nat) (i : Int) (m : List Int), 0 ≤ i → (l.length : Int) - i = d → Masks s m →
    ∃ r, Masks s r ∧ (∀ u v : Int, 0 ≤ u → u < s → 0 ≤ v → v < 8 → bit (rd r u) v = (bit (rd m u) v || nearF l u v d i)) ∧ Ev (fun k => impl_netOf.l0 k l l.length i m) r := by
  intro d
  induction d with
  | zero =>
    intro i m hi hd hm
    refine ⟨m, hm, fun u v _ _ _ _ => by simp [nearF], Ev.step (f := fun _ => some m) (fun k => ?_) (Ev.now m)⟩
    simp only [impl_netOf.l0]
    rw [if_neg (by omega)]
  | succ d ih =>
    intro i m hi hd hm
    obtain ⟨hs0, hs8, hgood⟩ := hg
    obtain ⟨g0, g1, g2⟩ := hgood i hi (by omega)
    have hw : wrap64 (i + 1) = i + 1 := by unfold wrap64; omega
    have hlen := hm.1
    obtain ⟨a, ha⟩ : ∃ a, a = (rd_T71 l i).f0 := ⟨_, rfl⟩
    obtain ⟨b, hb⟩ : ∃ b, b = (rd_T71 l i).f1 := ⟨_, rfl⟩
    rw [← ha] at g0 g1
    rw [← hb] at g1 g2
    obtain ⟨pa0, pa1, pa⟩ := put_ok (rd m a) b (hm.2 a g0 (by omega)).1 (hm.2 a g0 (by omega)).2 (by omega) (by omega)
    obtain ⟨pb0, pb1, pb⟩ := put_ok (rd m b) a (hm.2 b (by omega) g2).1 (hm.2 b (by omega) g2).2 g0 (by omega)
    obtain ⟨m1, hm1⟩ : ∃ m1, m1 = m.set a.toNat (put (rd m a) b) := ⟨_, rfl⟩
    obtain ⟨m2, hm2⟩ : ∃ m2, m2 = m1.set b.toNat (put (rd m1 b) a) := ⟨_, rfl⟩
    have l1 : m1.length = m.length := by rw [hm1, List.length_set]
    have l2 : m2.length = m.length := by rw [hm2, List.length_set, l1]
    have r1 : ∀ u : Int, 0 ≤ u → rd m1 u = if a = u then put (rd m a) b else rd m u := fun u hu => by rw [hm1]; exact rd_set m a u _ g0 (by omega) hu
    have r1b : rd m1 b = rd m b := by rw [r1 b (by omega), if_neg (by omega)]
    have r2 : ∀ u : Int, 0 ≤ u → rd m2 u = if b = u then put (rd m b) a else if a = u then put (rd m a) b else rd m u := fun u hu => by
      rw [hm2, rd_set m1 b u _ (by omega) (by omega) hu, r1b]
      by_cases h : b = u
      · rw [if_pos h, if_pos h]
      · rw [if_neg h, if_neg h, r1 u hu]
    have hm' : Masks s m2 := by
      refine ⟨by rw [l2]; exact hm.1, fun u hu0 hu1 => ?_⟩
      rw [r2 u hu0]
      by_cases h : b = u
      · rw [if_pos h]; exact ⟨pb0, pb1⟩
      · rw [if_neg h]
        by_cases h' : a = u
        · rw [if_pos h']; exact ⟨pa0, pa1⟩
        · rw [if_neg h']; exact hm.2 u hu0 hu1
    obtain ⟨r, hr, hbit, hev⟩ := ih (i + 1) m2 (by omega) (by omega) hm'
    refine ⟨r, hr, fun u v hu0 hu1 hv0 hv1 => ?_, Ev.step (fun k => ?_) hev⟩
    · rw [hbit u v hu0 hu1 hv0 hv1, r2 u hu0]
      conv => rhs; unfold nearF
      rw [← ha, ← hb]
      by_cases h : b = u
      · subst h
        rw [if_pos rfl, pb v hv0 hv1]
        have e1 : (a == b) = false := by simp; omega
        have e2 : (v == a) = (a == v) := by rw [Bool.eq_iff_iff]; simp; omega
        have e3 : (b == b) = true := by simp
        rw [e1, e2, e3]
        cases bit (rd m b) v <;> cases (a == v) <;> simp
      · rw [if_neg h]
        have e0 : (b == u) = false := by simpa using h
        by_cases h' : a = u
        · subst h'
          rw [if_pos rfl, pa v hv0 hv1]
          have e2 : (v == b) = (b == v) := by rw [Bool.eq_iff_iff]; simp; omega
          have e3 : (a == a) = true := by simp
          rw [e0, e2, e3]
          cases bit (rd m a) v <;> cases (b == v) <;> simp
        · rw [if_neg h']
          have e1 : (a == u) = false := by simpa using h'
          rw [e0, e1]
          simp
    · simp only [impl_netOf.l0, Option.bind_some]
      rw [← ha, ← hb]
      rw [if_pos (by omega), if_pos hi, if_pos (by omega), if_pos g0, if_pos (by omega), if_pos (by omega), if_pos (by omega), hw]
      show impl_netOf.l0 k l l.length (i + 1) ((m.set a.toNat (put (rd m a) b)).set b.toNat (put (rd (m.set a.toNat (put (rd m a) b)) b) a)) = _
      rw [← hm1, ← hm2]
theorem net_ev (s : Int) (l : List S71) (hl : l.length ≤ 1048576) (hg : Good s l) : ∃ r, Masks s r ∧ (∀ u v : Int, 0 ≤ u → u < s → 0 ≤ v → v < 8 → bit (rd r u) v = near l u v) ∧ Ev (fun k => impl_netOf.f k s l) r := by
  have hg' := hg
  obtain ⟨h0, h8, _⟩ := hg'
  have hz : Masks s (List.replicate s.toNat 0) := by
    refine ⟨by simp; omega, fun u hu0 hu1 => ?_⟩
    have : rd (List.replicate s.toNat 0) u = 0 := by
      unfold rd
      rw [List.getD_eq_getElem?_getD, List.getElem?_replicate, if_pos (by omega)]
      rfl
    rw [this]
    omega
  obtain ⟨r, hr, hb, K, hK⟩ := net_loop s l hl hg l.length 0 _ (by omega) (by omega) hz
  dsimp only at hK
  refine ⟨r, hr, fun u v hu0 hu1 hv0 hv1 => ?_, K, fun k hk => ?_⟩
  · rw [hb u v hu0 hu1 hv0 hv1]
    have : rd (List.replicate s.toNat 0) u = 0 := by
      unfold rd
      rw [List.getD_eq_getElem?_getD, List.getElem?_replicate, if_pos (by omega)]
      rfl
    rw [this, bit_zero v hv0 hv1, Bool.false_or]
    rfl
  · dsimp only
    unfold impl_netOf.f
    rw [if_pos h0, if_pos (by omega)]
    exact hK k hk
theorem near_out_loop (s : Int) (l : List S71) (hg : Good s l) (u v : Int) (hv : s ≤ v) : ∀ (d : Nat) (i : Int), 0 ≤ i → (l.length : Int) - i = d → nearF l u v d i = false := by
  intro d
  induction d with
  | zero => intro i _ _; rfl
  | succ d ih =>
    intro i hi hd
    obtain ⟨g0, g1, g2⟩ := hg.2.2 i hi (by omega)
    unfold nearF
    rw [ih (i + 1) (by omega) (by omega)]
    have e1 : ((rd_T71 l i).f1 == v) = false := by simp; omega
    have e2 : ((rd_T71 l i).f0 == v) = false := by simp; omega
    rw [e1, e2]
    simp
theorem near_out (s : Int) (l : List S71) (hg : Good s l) (u v : Int) (hv : s ≤ v) : near l u v = false := near_out_loop s l hg u v hv l.length 0 (by omega) (by omega)
end Go.Proofs.Ytcjddikalgnhpaa.Gr
namespace Go.Proofs.Ytcjddikalgnhpaa.Gr
open Go.RowKit Go.Proofs.Ytcjddikalgnhpaa.P Go.Proofs.YtcjddikalgnhpaaW.PrintWords Go.Proofs.YtcjddikalgnhpaaW.PrintLast
def rowF (h : Int → Int → Bool) (x : Int) : Nat → Int → List S71
  | 0, _ => []
  | d + 1, y => (if h x y = true then [⟨x, y⟩] else []) ++ rowF h x d (y + 1)
def allF (h : Int → Int → Bool) : Nat → Int → List S71
  | 0, _ => []
  | d + 1, x => rowF h x d (x + 1) ++ allF h d (x + 1)
/-- The pairs x < y below n for which h says yes, in order. -/
def pairs (h : Int → Int → Bool) (n : Int) : List S71 := allF h n.toNat 0
theorem rowF_len (h : Int → Int → Bool) (x : Int) : ∀ d y, (rowF h x d y).length ≤ d
  | 0, _ => Nat.le_refl _
  | d + 1, y => by
    have := rowF_len h x d (y + 1)
    unfold rowF
    rw [List.length_append]
    split <;> simp <;> omega
theorem allF_len (h : Int → Int → Bool) (N : Nat) : ∀ d x, d ≤ N → (allF h d x).length ≤ d * N
  | 0, _, _ => by simp [allF]
  | d + 1, x, hd => by
    have h1 := rowF_len h x d (x + 1)
    have h2 := allF_len h N d (x + 1) (by omega)
    unfold allF
    rw [List.length_append, Nat.succ_mul]
    omega
theorem pairs_len (h : Int → Int → Bool) (n : Int) (hn : n ≤ 1000) : (pairs h n).length ≤ 1000000 := by
  have h1 := allF_len h 1000 n.toNat 0 (by omega)
  unfold pairs
  omega
theorem rowF_congr (h h' : Int → Int → Bool) (x : Int) : ∀ (d : Nat) (y : Int), (∀ z : Int, y ≤ z → z < y + (d : Int) → h x z = h' x z) → rowF h x d y = rowF h' x d y
  | 0, _, _ => rfl
  | d + 1, y, e => by
    unfold rowF
    rw [e y (by omega) (by omega), rowF_congr h h' x d (y + 1) (fun z h1 h2 => e z (by omega) (by omega))]
theorem allF_congr (h h' : Int → Int → Bool) : ∀ (d : Nat) (x : Int), (∀ a b : Int, x ≤ a → a < b → b < x + (d : Int) → h a b = h' a b) → allF h d x = allF h' d x
  | 0, _, _ => rfl
  | d + 1, x, e => by
    unfold allF
    rw [rowF_congr h h' x d (x + 1) (fun z h1 h2 => e x z (by omega) (by omega) (by omega)), allF_congr h h' d (x + 1) (fun a b h1 h2 h3 => e a b (by omega) h2 (by omega))]
theorem pairs_congr (h h' : Int → Int → Bool) (n : Int) (e : ∀ a b : Int, 0 ≤ a → a < b → b < n → h a b = h' a b) : pairs h n = pairs h' n :=
  allF_congr h h' n.toNat 0 (fun a b h1 h2 h3 => e a b h1 h2 (by omega))
end Go.Proofs.Ytcjddikalgnhpaa.Gr
namespace Go.Proofs.Ytcjddikalgnhpaa.Gr
open Go.RowKit Go.Proofs.Ytcjddikalgnhpaa.P Go.Proofs.YtcjddikalgnhpaaW.PrintWords Go.Proofs.YtcjddikalgnhpaaW.PrintLast Go.Proofs.YtcjddikalgnhpaaW.PrintMore
theorem rdT_eq (l : List S71) (i : Nat) (h : i < l.length) : rd_T71 l i = l[i] := by
  unfold rd_T71
  rw [List.getD_eq_getElem?_getD, Int.toNat_natCast, List.getElem?_eq_getElem h]
  rfl
theorem rdT_mem (l : List S71) (i : Int) (h0 : 0 ≤ i) (h1 : i < l.length) : rd_T71 l i ∈ l := by
  have := rdT_eq l i.toNat (by omega)
  rw [Int.toNat_of_nonneg h0] at this
  rw [this]
  exact List.getElem_mem _
theorem mem_rdT {l : List S71} {x : S71} (h : x ∈ l) : ∃ i : Int, 0 ≤ i ∧ i < l.length ∧ rd_T71 l i = x := by
  obtain ⟨j, hj, rfl⟩ := List.mem_iff_getElem.1 h
  exact ⟨j, by omega, by omega, rdT_eq l j hj⟩
theorem takeT (l : List S71) (i : Int) (h0 : 0 ≤ i) (h1 : i < l.length) : l.take (i + 1).toNat = l.take i.toNat ++ [rd_T71 l i] := by
  rw [show (i + 1).toNat = i.toNat + 1 by omega, List.take_succ_eq_append_getElem (by omega)]
  have := rdT_eq l i.toNat (by omega)
  rw [Int.toNat_of_nonneg h0] at this
  rw [this]
theorem takeT_all (l : List S71) (i : Int) (h : (l.length : Int) ≤ i) : l.take i.toNat = l := List.take_of_length_le (by omega)
def ltP (a b : S71) : Prop := a.f0 < b.f0 ∨ (a.f0 = b.f0 ∧ a.f1 < b.f1)
abbrev Up2 (l : List S71) : Prop := l.Pairwise ltP
theorem ltP_irr {a : S71} (h : ltP a a) : False := by unfold ltP at h; omega
theorem ltP_trans {a b c : S71} (h : ltP a b) (k : ltP b c) : ltP a c := by unfold ltP at *; omega
theorem ltP_asymm {a b : S71} (h : ltP a b) (k : ltP b a) : False := ltP_irr (ltP_trans h k)
theorem ltP_tri (a b : S71) (h : ¬ ltP a b) (k : ¬ ltP b a) : a = b := by
  cases a; cases b
  unfold ltP at *
  dsimp only at *
  congr 1 <;> omega
theorem up2_ext : ∀ {a b : List S71}, Up2 a → Up2 b → (∀ x, x ∈ a ↔ x ∈ b) → a = b
  | [], [], _, _, _ => rfl
  | [], y :: b, _, _, h => by have := (h y).2 List.mem_cons_self; cases this
  | x :: a, [], _, _, h => by have := (h x).1 List.mem_cons_self; cases this
  | x :: a, y :: b, ha, hb, h => by
    have ha' := List.pairwise_cons.1 ha
    have hb' := List.pairwise_cons.1 hb
    have e : x = y := by
      rcases List.mem_cons.1 ((h x).1 List.mem_cons_self) with e | e
      · exact e
      · rcases List.mem_cons.1 ((h y).2 List.mem_cons_self) with e' | e'
        · exact e'.symm
        · exact (ltP_asymm (hb'.1 x e) (ha'.1 y e')).elim
    subst e
    congr 1
    refine up2_ext ha'.2 hb'.2 (fun z => ⟨fun hz => ?_, fun hz => ?_⟩)
    · rcases List.mem_cons.1 ((h z).1 (List.mem_cons_of_mem _ hz)) with e | e
      · subst e; exact (ltP_irr (ha'.1 z hz)).elim
      · exact e
    · rcases List.mem_cons.1 ((h z).2 (List.mem_cons_of_mem _ hz)) with e | e
      · subst e; exact (ltP_irr (hb'.1 z hz)).elim
      · exact e
theorem sorted_up2 {l : List S71} (h : Sorted l) : Up2 l := by
  have key : ∀ (d : Nat) (i : Int), 0 ≤ i → i + (d : Int) + 1 < l.length → ltP (rd_T71 l i) (rd_T71 l (i + d + 1)) := by
    intro d
    induction d with
    | zero =>
      intro i h0 h1
      have := h (i + 1) (by omega) (by omega)
      rw [show i + 1 - 1 = i by omega] at this
      rw [show i + ((0 : Nat) : Int) + 1 = i + 1 by omega]
      exact this
    | succ d ih =>
      intro i h0 h1
      have a := ih i h0 (by omega)
      have b := h (i + (d : Int) + 1 + 1) (by omega) (by omega)
      rw [show i + (d : Int) + 1 + 1 - 1 = i + d + 1 by omega] at b
      rw [show i + ((d + 1 : Nat) : Int) + 1 = i + (d : Int) + 1 + 1 by omega]
      exact ltP_trans a b
  refine List.pairwise_iff_getElem.2 (fun i j hi hj hij => ?_)
  have := key (j - i - 1) i (by omega) (by omega)
  rw [show (i : Int) + ((j - i - 1 : Nat) : Int) + 1 = (j : Int) by omega] at this
  rw [← rdT_eq l i hi, ← rdT_eq l j hj]
  exact this
theorem good_mem {s : Int} {l : List S71} (h : Good s l) {e : S71} (he : e ∈ l) : 0 ≤ e.f0 ∧ e.f0 < e.f1 ∧ e.f1 < s := by
  obtain ⟨i, h0, h1, rfl⟩ := mem_rdT he
  exact h.2.2 i h0 h1
theorem nearF_iff (l : List S71) (u v : Int) : ∀ (d : Nat) (i : Int), 0 ≤ i → (l.length : Int) - i = d → (nearF l u v d i = true ↔ ∃ j : Int, i ≤ j ∧ j < l.length ∧ (rd_T71 l j = ⟨u, v⟩ ∨ rd_T71 l j = ⟨v, u⟩)) := by
  intro d
  induction d with
  | zero =>
    intro i h0 hd
    constructor
    · intro h; cases h
    · rintro ⟨j, h1, h2, _⟩; omega
  | succ d ih =>
    intro i h0 hd
    unfold nearF
    rw [Bool.or_eq_true, Bool.or_eq_true, ih (i + 1) (by omega) (by omega), Bool.and_eq_true, Bool.and_eq_true, beq_iff_eq, beq_iff_eq, beq_iff_eq, beq_iff_eq]
    have ex : ∀ a b : Int, (rd_T71 l i).f0 = a ∧ (rd_T71 l i).f1 = b ↔ rd_T71 l i = ⟨a, b⟩ := fun a b => ⟨fun ⟨h1, h2⟩ => by rw [← h1, ← h2], fun h => by rw [h]; exact ⟨rfl, rfl⟩⟩
    rw [ex, ex]
    constructor
    · rintro ((h | h) | ⟨j, h1, h2, h3⟩)
      · exact ⟨i, by omega, by omega, .inl h⟩
      · exact ⟨i, by omega, by omega, .inr h⟩
      · exact ⟨j, by omega, h2, h3⟩
    · rintro ⟨j, h1, h2, h3⟩
      by_cases e : j = i
      · subst e
        exact .inl h3
      · exact .inr ⟨j, by omega, h2, h3⟩
theorem near_iff (l : List S71) (u v : Int) : near l u v = true ↔ (⟨u, v⟩ : S71) ∈ l ∨ (⟨v, u⟩ : S71) ∈ l := by
  unfold near
  rw [nearF_iff l u v l.length 0 (by omega) (by omega)]
  constructor
  · rintro ⟨j, h1, h2, h3 | h3⟩
    · exact .inl (h3 ▸ rdT_mem l j h1 h2)
    · exact .inr (h3 ▸ rdT_mem l j h1 h2)
  · rintro (h | h)
    · obtain ⟨j, h0, h1, h2⟩ := mem_rdT h
      exact ⟨j, h0, h1, .inl h2⟩
    · obtain ⟨j, h0, h1, h2⟩ := mem_rdT h
      exact ⟨j, h0, h1, .inr h2⟩
theorem near_symm (l : List S71) (u v : Int) : near l u v = near l v u := by
  rw [Bool.eq_iff_iff, near_iff, near_iff]
  exact Or.comm
theorem near_in {s : Int} {l : List S71} (h : Good s l) {u v : Int} (hn : near l u v = true) : (0 ≤ u ∧ u < s) ∧ (0 ≤ v ∧ v < s) ∧ u ≠ v := by
  rcases (near_iff l u v).1 hn with e | e
  · have := good_mem h e
    dsimp only at this
    omega
  · have := good_mem h e
    dsimp only at this
    omega
theorem near_lt {s : Int} {l : List S71} (h : Good s l) {u v : Int} (huv : u < v) : near l u v = true ↔ (⟨u, v⟩ : S71) ∈ l := by
  rw [near_iff]
  refine ⟨fun k => k.elim id (fun e => ?_), .inl⟩
  have := good_mem h e
  dsimp only at this
  omega
theorem mem_rowF (h : Int → Int → Bool) (x : Int) (e : S71) : ∀ (d : Nat) (y : Int), e ∈ rowF h x d y ↔ e.f0 = x ∧ y ≤ e.f1 ∧ e.f1 < y + d ∧ h x e.f1 = true
  | 0, y => by
    constructor
    · intro h; cases h
    · rintro ⟨_, h1, h2, _⟩; omega
  | d + 1, y => by
    unfold rowF
    rw [List.mem_append, mem_rowF h x e d (y + 1)]
    constructor
    · rintro (hm | ⟨h0, h1, h2, h3⟩)
      · by_cases hc : h x y = true
        · rw [if_pos hc, List.mem_singleton] at hm
          subst hm
          exact ⟨rfl, by show y ≤ y; omega, by show y < y + _; omega, hc⟩
        · rw [if_neg hc] at hm; cases hm
      · exact ⟨h0, by omega, by omega, h3⟩
    · rintro ⟨h0, h1, h2, h3⟩
      by_cases hy : e.f1 = y
      · left
        rw [← hy, if_pos h3, List.mem_singleton, ← h0]
      · exact .inr ⟨h0, by omega, by omega, h3⟩
theorem rowF_up (h : Int → Int → Bool) (x : Int) : ∀ (d : Nat) (y : Int), Up2 (rowF h x d y)
  | 0, y => List.Pairwise.nil
  | d + 1, y => by
    unfold rowF
    refine List.pairwise_append.2 ⟨?_, rowF_up h x d (y + 1), fun a ha b hb => ?_⟩
    · split
      · exact List.pairwise_singleton _ _
      · exact List.Pairwise.nil
    · have hb' := (mem_rowF h x b d (y + 1)).1 hb
      by_cases hc : h x y = true
      · rw [if_pos hc, List.mem_singleton] at ha
        subst ha
        exact .inr ⟨hb'.1.symm, by show y < _; omega⟩
      · rw [if_neg hc] at ha; cases ha
theorem mem_allF (h : Int → Int → Bool) (e : S71) : ∀ (d : Nat) (x : Int), e ∈ allF h d x ↔ x ≤ e.f0 ∧ e.f0 < e.f1 ∧ e.f1 < x + d ∧ h e.f0 e.f1 = true
  | 0, x => by
    constructor
    · intro h; cases h
    · rintro ⟨h1, h2, h3, _⟩; omega
  | d + 1, x => by
    unfold allF
    rw [List.mem_append, mem_rowF, mem_allF h e d (x + 1)]
    constructor
    · rintro (⟨h0, h1, h2, h3⟩ | ⟨h0, h1, h2, h3⟩)
      · exact ⟨by omega, by omega, by omega, by rw [h0]; exact h3⟩
      · exact ⟨by omega, h1, by omega, h3⟩
    · rintro ⟨h0, h1, h2, h3⟩
      by_cases hx : e.f0 = x
      · exact .inl ⟨hx, by omega, by omega, by rw [← hx]; exact h3⟩
      · exact .inr ⟨by omega, h1, by omega, h3⟩
theorem allF_up (h : Int → Int → Bool) : ∀ (d : Nat) (x : Int), Up2 (allF h d x)
  | 0, x => List.Pairwise.nil
  | d + 1, x => by
    unfold allF
    refine List.pairwise_append.2 ⟨rowF_up h x d (x + 1), allF_up h d (x + 1), fun a ha b hb => ?_⟩
    have ha' := (mem_rowF h x a d (x + 1)).1 ha
    have hb' := (mem_allF h b d (x + 1)).1 hb
    exact .inl (by omega)
theorem mem_pairs {h : Int → Int → Bool} {n : Int} {e : S71} : e ∈ pairs h n ↔ 0 ≤ e.f0 ∧ e.f0 < e.f1 ∧ e.f1 < n ∧ h e.f0 e.f1 = true := by
  unfold pairs
  rw [mem_allF]
  constructor
  · rintro ⟨h0, h1, h2, h3⟩
    exact ⟨h0, h1, by omega, h3⟩
  · rintro ⟨h0, h1, h2, h3⟩
    exact ⟨h0, h1, by omega, h3⟩
theorem pairs_up (h : Int → Int → Bool) (n : Int) : Up2 (pairs h n) := allF_up h _ _
/-- A good graph's pairs are those that are near. -/
theorem good_pairs {s : Int} {l : List S71} (h : Good s l) (hs : Sorted l) : l = pairs (near l) s := by
  refine up2_ext (sorted_up2 hs) (pairs_up _ _) (fun e => ?_)
  rw [mem_pairs]
  constructor
  · intro he
    have := good_mem h he
    exact ⟨this.1, this.2.1, this.2.2, (near_iff l _ _).2 (.inl he)⟩
  · rintro ⟨h0, h1, h2, h3⟩
    exact (near_lt h h1).1 h3
theorem l1Put_cm (l : List Int) (e : Int) (hl : l.length ≤ 1048577) (hu : Up l) (he : e ∉ l) : Cm (fun k => spec_l1Put.f k l e) (fun r => Up r ∧ (∀ x, x ∈ r ↔ x = e ∨ x ∈ l) ∧ r.length = l.length + 1) := by
  unfold spec_l1Put.f
  have fin : ∀ i : Int, 0 ≤ i → i ≤ l.length → (∀ x ∈ l.take i.toNat, x < e) → (∀ x ∈ l.drop i.toNat, e < x) → Up (l.take i.toNat ++ [e] ++ l.drop i.toNat) ∧ (∀ x, x ∈ l.take i.toNat ++ [e] ++ l.drop i.toNat ↔ x = e ∨ x ∈ l) ∧ (l.take i.toNat ++ [e] ++ l.drop i.toNat).length = l.length + 1 := by
    intro i h0 h1 ht hd
    have hs : l.take i.toNat ++ l.drop i.toNat = l := List.take_append_drop _ _
    have hu' := hu
    rw [← hs] at hu'
    have hp := List.pairwise_append.1 hu'
    refine ⟨?_, fun x => ?_, ?_⟩
    · refine List.pairwise_append.2 ⟨List.pairwise_append.2 ⟨hp.1, List.pairwise_singleton _ _, fun a ha b hb => ?_⟩, hp.2.1, fun a ha b hb => ?_⟩
      · rw [List.mem_singleton] at hb
        subst hb
        exact ht a ha
      · rcases List.mem_append.1 ha with ha | ha
        · exact hp.2.2 a ha b hb
        · rw [List.mem_singleton] at ha
          subst ha
          exact hd b hb
    · rw [List.mem_append, List.mem_append, List.mem_singleton]
      constructor
      · rintro ((h | h) | h)
        · exact .inr (List.mem_of_mem_take h)
        · exact .inl h
        · exact .inr (List.mem_of_mem_drop h)
      · rintro (h | h)
        · exact .inl (.inr h)
        · rw [← hs] at h
          rcases List.mem_append.1 h with h | h
          · exact .inl (.inl h)
          · exact .inr h
    · rw [List.length_append, List.length_append, List.length_take, List.length_drop, List.length_singleton]
      omega
  refine Cm.up (fun k i (_ : Unit) => spec_l1Put.l0 k l e i) l.length (fun i _ => 0 ≤ i ∧ ∀ x ∈ l.take i.toNat, x < e) _ ?_ 0 () (by omega) ⟨by omega, fun x hx => by cases hx⟩
  rintro i _ hi ⟨h0, ht⟩ ih
  by_cases h : i < l.length
  · have hne : rd l i ≠ e := fun e' => he (e' ▸ rd_mem l i h0 h)
    by_cases hb : rd l i < e
    · refine Cm.step (fun k => by simp (disch := omega) only [spec_l1Put.l0, w64 (i + 1), if_pos]; try rfl) (ih () h ⟨by omega, ?_⟩)
      rw [take_rd l i h0 h]
      intro x hx
      rcases List.mem_append.1 hx with hx | hx
      · exact ht x hx
      · rw [List.mem_singleton] at hx
        subst hx
        exact hb
    · have hd : ∀ x ∈ l.drop i.toNat, e < x := by
        intro x hx
        obtain ⟨j, hj, rfl⟩ := List.mem_iff_getElem.1 hx
        rw [List.getElem_drop]
        have hr := rd_eq l i.toNat (by omega)
        rw [Int.toNat_of_nonneg h0] at hr
        by_cases hj0 : j = 0
        · subst hj0
          simp only [Nat.add_zero]
          rw [← hr]
          omega
        · rw [List.length_drop] at hj
          have := List.pairwise_iff_getElem.1 hu i.toNat (i.toNat + j) (by omega) (by omega) (by omega)
          rw [← hr] at this
          omega
      have hF := fin i h0 (by omega) ht hd
      refine Cm.step (fun k => by simp (disch := omega) only [spec_l1Put.l0, if_pos h, if_pos h0, if_neg hb, if_neg hne, Option.bind_some, List.nil_append, List.length_nil, Nat.zero_add, List.length_append, List.length_take, List.length_drop, List.length_singleton, if_pos]; try rfl) (Cm.now hF)
  · have e1 : l.take i.toNat = l := take_all l i (by omega)
    have hd : ∀ x ∈ l.drop i.toNat, e < x := by
      rw [List.drop_eq_nil_of_le (by omega)]
      intro x hx
      cases hx
    have hF := fin i h0 (by omega) ht hd
    refine Cm.step (fun k => by simp (disch := omega) only [spec_l1Put.l0, Option.bind_some, if_neg h, if_pos h0, List.nil_append, List.length_nil, Nat.zero_add, List.length_append, List.length_take, List.length_drop, List.length_singleton, if_pos]; try rfl) (Cm.now hF)
theorem nbs_ev' (s : Int) (l : List S71) (hl : l.length ≤ 1048576) (h8 : s ≤ 8) (h0 : 0 ≤ s) (u : Int) : Ev (fun k => spec_l2Neighbors.f k s l u) ((V s).filter (near l u)) := by
  refine Cm.ev ?_
  unfold spec_l2Neighbors.f
  refine Cm.up (fun k i a => spec_l2Neighbors.l0 k u a i s l) s (fun i a => 0 ≤ i ∧ a = (V i).filter (near l u)) _ ?_ 0 [] (by omega) ⟨by omega, rfl⟩
  rintro i a hi ⟨i0, rfl⟩ ih
  have hlen : ((V i).filter (near l u)).length ≤ i.toNat := VF_len
  by_cases h : i < s
  · refine Cm.step (fun k => by simp (disch := omega) only [spec_l2Neighbors.l0, if_pos h, w64 (i + 1)]; try rfl) ?_
    refine Cm.bindE (near_ev s l u i hl) (Cm.ite (fun e => Cm.pos (by omega) (ih _ h ⟨by omega, ?_⟩)) (fun e => ih _ h ⟨by omega, ?_⟩))
    · rw [VF_succ i0, if_pos e]
    · rw [VF_succ i0, if_neg e, List.append_nil]
  · refine Cm.step (fun k => by simp only [spec_l2Neighbors.l0, if_neg h]; try rfl) (Cm.now ?_)
    rw [show i = s by omega]
/-- Near, or the same. -/
def cl (l : List S71) (u v : Int) : Bool := near l u v || u == v
theorem cl_symm (l : List S71) (u v : Int) : cl l u v = cl l v u := by
  unfold cl
  rw [near_symm l u v, Bool.eq_iff_iff, Bool.or_eq_true, Bool.or_eq_true, beq_iff_eq, beq_iff_eq]
  exact or_congr Iff.rfl eq_comm
theorem cl_self (l : List S71) (u : Int) : cl l u u = true := by unfold cl; simp
theorem cl_out {s : Int} {l : List S71} (hG : Gr.Good s l) {u v : Int} (hu : 0 ≤ u ∧ u < s) (h : cl l u v = true) : 0 ≤ v ∧ v < s := by
  unfold cl at h
  rw [Bool.or_eq_true, beq_iff_eq] at h
  rcases h with h | h
  · exact (near_in hG h).2.1
  · exact h ▸ hu
/-- The masks of the net of a graph. -/
def Net (s : Int) (l : List S71) (m : List Int) : Prop := Masks s m ∧ ∀ u v : Int, 0 ≤ u → u < s → 0 ≤ v → v < 8 → bit (rd m u) v = near l u v
/-- A mask that is a set of nodes. -/
def IsM (s : Int) (P : Int → Bool) (m : Int) : Prop := M8 m ∧ ∀ v : Int, 0 ≤ v → v < 8 → bit m v = (decide (v < s) && P v)
theorem has_ev (L : List Int) (x : Int) (hl : L.length ≤ 1048576) : Ev (fun k => spec_l1Has.f k L x) (decide (x ∈ L)) := by
  refine Cm.ev ?_
  unfold spec_l1Has.f
  refine Cm.up (fun k i (_ : Unit) => spec_l1Has.l0 k L x i) L.length (fun i _ => 0 ≤ i ∧ x ∉ L.take i.toNat) _ ?_ 0 () (by omega) ⟨by omega, by simp⟩
  rintro i _ hi ⟨h0, ht⟩ ih
  by_cases h : i < L.length
  · by_cases e : rd L i = x
    · refine Cm.step (fun k => by simp only [spec_l1Has.l0, if_pos h, if_pos h0, if_pos e]; try rfl) (Cm.now ?_)
      rw [decide_eq_true (e ▸ rd_mem L i h0 h)]
    · refine Cm.step (fun k => by simp (disch := omega) only [spec_l1Has.l0, if_pos h, if_pos h0, if_neg e, w64 (i + 1)]; try rfl) (ih () h ⟨by omega, ?_⟩)
      rw [take_rd L i h0 h, List.mem_append, List.mem_singleton]
      rintro (h' | h')
      · exact ht h'
      · exact e h'.symm
  · refine Cm.step (fun k => by simp only [spec_l1Has.l0, if_neg h]; try rfl) (Cm.now ?_)
    rw [take_all L i (by omega)] at ht
    rw [decide_eq_false ht]
theorem within_eq' (a lo hi : Int) : impl_within.f a lo hi = some (decide (lo ≤ a ∧ a ≤ hi)) := by
  unfold impl_within.f
  by_cases h : a ≥ lo
  · rw [if_pos h]
    simp [show lo ≤ a from h]
  · rw [if_neg h]
    simp [show ¬ lo ≤ a from h]
theorem allIn_ev (L : List Int) (lo hi : Int) (hl : L.length ≤ 1048576) : Cm (fun k => impl_allWithin.f k L lo hi) (fun b => b = true ↔ ∀ x ∈ L, lo ≤ x ∧ x ≤ hi) := by
  unfold impl_allWithin.f
  refine Cm.up (fun k i (_ : Unit) => impl_allWithin.l0 k lo hi L L.length i) L.length (fun i _ => 0 ≤ i ∧ ∀ x ∈ L.take i.toNat, lo ≤ x ∧ x ≤ hi) _ ?_ 0 () (by omega) ⟨by omega, by simp⟩
  rintro i _ hi' ⟨h0, ht⟩ ih
  by_cases h : i < L.length
  · by_cases e : lo ≤ rd L i ∧ rd L i ≤ hi
    · refine Cm.step (fun k => by simp (disch := omega) only [impl_allWithin.l0, if_pos h, if_pos h0, within_eq', Option.bind_some, decide_eq_true e, if_true, w64 (i + 1)]; try rfl) (ih () h ⟨by omega, ?_⟩)
      rw [take_rd L i h0 h]
      intro x hx
      rcases List.mem_append.1 hx with hx | hx
      · exact ht x hx
      · rw [List.mem_singleton] at hx
        rw [hx]
        exact e
    · refine Cm.step (fun k => by simp only [impl_allWithin.l0, if_pos h, if_pos h0, within_eq', Option.bind_some, decide_eq_false e, Bool.false_eq_true, if_false]; try rfl) (Cm.now ⟨fun h => Bool.noConfusion h, fun hA => (e (hA _ (rd_mem L i h0 h))).elim⟩)
  · refine Cm.step (fun k => by simp only [impl_allWithin.l0, if_neg h]; try rfl) (Cm.now ⟨fun _ => ?_, fun _ => rfl⟩)
    rw [take_all L i (by omega)] at ht
    exact ht
/-- y covers x in the set P. -/
def Cov (s : Int) (l : List S71) (P : Int → Bool) (x y : Int) : Prop := x ≠ y ∧ (0 ≤ y ∧ y < s) ∧ P y = true ∧ ∀ b : Int, 0 ≤ b → b < s → cl l x b = true → P b = true → cl l y b = true
open Classical in
/-- The covers of x in P, in order. -/
noncomputable def covs (s : Int) (l : List S71) (P : Int → Bool) (x : Int) : List Int := (V s).filter (fun y => decide (Cov s l P x y))
open Classical in
theorem mem_covs {s : Int} {l : List S71} {P : Int → Bool} {x y : Int} : y ∈ covs s l P x ↔ Cov s l P x y := by
  unfold covs
  rw [mem_VF, decide_eq_true_eq]
  exact ⟨fun h => h.2, fun h => ⟨h.2.1, h⟩⟩
theorem covs_up (s : Int) (l : List S71) (P : Int → Bool) (x : Int) : Up (covs s l P x) := filter_up (V_up _) _
theorem covs_len (s : Int) (l : List S71) (P : Int → Bool) (x : Int) : (covs s l P x).length ≤ s.toNat := VF_len
theorem covs_congr {s : Int} {l : List S71} {P Q : Int → Bool} (h : ∀ b : Int, 0 ≤ b → b < s → P b = Q b) (x : Int) : covs s l P x = covs s l Q x := by
  refine up_ext (covs_up _ _ _ _) (covs_up _ _ _ _) (fun y => ?_)
  rw [mem_covs, mem_covs]
  unfold Cov
  constructor
  · rintro ⟨h1, h2, h3, h4⟩
    exact ⟨h1, h2, by rw [← h y h2.1 h2.2]; exact h3, fun b b0 b1 hc hq => h4 b b0 b1 hc (by rw [h b b0 b1]; exact hq)⟩
  · rintro ⟨h1, h2, h3, h4⟩
    exact ⟨h1, h2, by rw [h y h2.1 h2.2]; exact h3, fun b b0 b1 hc hq => h4 b b0 b1 hc (by rw [← h b b0 b1]; exact hq)⟩
theorem around_cm (s : Int) (l : List S71) (h8 : s ≤ 8) (m : List Int) (hm : Net s l m) (q : Int) (hq : M8 q) : Cm (fun k => impl_net_around.f k m q) (fun a => M8 a ∧ ∀ v : Int, 0 ≤ v → v < 8 → (bit a v = true ↔ bit q v = true ∨ ∃ u : Int, (0 ≤ u ∧ u < s) ∧ bit q u = true ∧ near l u v = true)) := by
  unfold impl_net_around.f
  have hms := hm.1.1
  refine Cm.up (fun k i a => impl_net_around.l0 k q a m m.length i) m.length (fun i a => 0 ≤ i ∧ M8 a ∧ ∀ v : Int, 0 ≤ v → v < 8 → (bit a v = true ↔ bit q v = true ∨ ∃ u : Int, (0 ≤ u ∧ u < i) ∧ bit q u = true ∧ near l u v = true)) _ ?_ 0 q (by omega) ⟨by omega, hq, fun v _ _ => ⟨.inl, fun h => h.elim id (fun ⟨u, hu, _⟩ => by omega)⟩⟩
  rintro i a hi ⟨i0, hM, hb⟩ ih
  by_cases h : i < (m.length : Int)
  · by_cases e : Go.bits .and .i64 (shr .i64 q i) 1 = 1
    · have hbit : bit q i = true := by unfold bit; rw [e]; rfl
      have h1 := or_ok a (rd m i) hM (hm.1.2 i i0 (by omega))
      refine Cm.step (fun k => by simp (disch := omega) only [impl_net_around.l0, if_pos h, if_pos i0, if_pos e, w64 (i + 1)]; try rfl) (ih _ h ⟨by omega, h1.1, fun v v0 v1 => ?_⟩)
      rw [h1.2 v v0 (by omega), Bool.or_eq_true, hb v v0 v1, hm.2 i v i0 (by omega) v0 v1]
      constructor
      · rintro ((h2 | ⟨u, hu, h2⟩) | h2)
        · exact .inl h2
        · exact .inr ⟨u, by omega, h2⟩
        · exact .inr ⟨i, by omega, hbit, h2⟩
      · rintro (h2 | ⟨u, hu, h2, h3⟩)
        · exact .inl (.inl h2)
        · by_cases hui : u = i
          · rw [hui] at h3
            exact .inr h3
          · exact .inl (.inr ⟨u, by omega, h2, h3⟩)
    · have hbit : ¬ bit q i = true := by unfold bit; rw [beq_iff_eq]; exact e
      refine Cm.step (fun k => by simp (disch := omega) only [impl_net_around.l0, if_pos h, if_pos i0, if_neg e, w64 (i + 1)]; try rfl) (ih _ h ⟨by omega, hM, fun v v0 v1 => ?_⟩)
      rw [hb v v0 v1]
      constructor
      · rintro (h2 | ⟨u, hu, h2⟩)
        · exact .inl h2
        · exact .inr ⟨u, by omega, h2⟩
      · rintro (h2 | ⟨u, hu, h2, h3⟩)
        · exact .inl h2
        · by_cases hui : u = i
          · rw [hui] at h2
            exact (hbit h2).elim
          · exact .inr ⟨u, by omega, h2, h3⟩
  · refine Cm.step (fun k => by simp only [impl_net_around.l0, if_neg h]; try rfl) (Cm.now ⟨hM, fun v v0 v1 => ?_⟩)
    rw [hb v v0 v1, show i = s by omega]
/-- v is reached from x in n steps at most. -/
def Rch (l : List S71) (x : Int) : Nat → Int → Prop
  | 0, v => v = x
  | n + 1, v => Rch l x n v ∨ ∃ u, Rch l x n u ∧ near l u v = true
theorem rch_more {l : List S71} {x : Int} {n m : Nat} (h : n ≤ m) {v : Int} (hv : Rch l x n v) : Rch l x m v := by
  obtain ⟨d, rfl⟩ := Nat.le.dest h
  induction d with
  | zero => exact hv
  | succ d ih => exact .inl (ih (by omega))
theorem rch_in {s : Int} {l : List S71} (hG : Gr.Good s l) {x : Int} (hx : 0 ≤ x ∧ x < s) : ∀ (n : Nat) (v : Int), Rch l x n v → 0 ≤ v ∧ v < s
  | 0, v, h => by rw [show v = x from h]; exact hx
  | n + 1, v, h => h.elim (rch_in hG hx n v) (fun ⟨_, _, hn⟩ => (near_in hG hn).2.1)
theorem rch_stay {l : List S71} {x : Int} {n : Nat} (h : ∀ v, Rch l x (n + 1) v → Rch l x n v) : ∀ (m : Nat) (v : Int), n ≤ m → Rch l x m v → Rch l x n v := by
  intro m
  induction m with
  | zero => intro v hm hv; exact rch_more (by omega) hv
  | succ m ih =>
    intro v hm hv
    by_cases e : n = m + 1
    · rw [e]; exact hv
    · rcases hv with h1 | ⟨u, h1, h2⟩
      · exact ih v (by omega) h1
      · exact h v (.inr ⟨u, ih u (by omega) h1, h2⟩)
open Classical in
theorem rch_many {s : Int} {l : List S71} (hG : Gr.Good s l) (x : Int) (hx : 0 ≤ x ∧ x < s) : ∀ n : Nat, (∃ m, m ≤ n ∧ ∀ v, Rch l x (m + 1) v → Rch l x m v) ∨ n + 1 ≤ ((V s).filter (fun v => decide (Rch l x n v))).length
  | 0 => .inr (by
    have := List.length_pos_of_mem (mem_VF.2 ⟨hx, decide_eq_true (show Rch l x 0 x from rfl)⟩ : x ∈ (V s).filter (fun v => decide (Rch l x 0 v)))
    omega)
  | n + 1 => by
    rcases rch_many hG x hx n with ⟨m, hm, h⟩ | h
    · exact .inl ⟨m, by omega, h⟩
    · by_cases hs : ∃ v, Rch l x (n + 1) v ∧ ¬ Rch l x n v
      · obtain ⟨v, h1, h2⟩ := hs
        refine .inr ?_
        have hv := rch_in hG hx (n + 1) v h1
        have hle := nodup_le (a := v :: (V s).filter (fun v => decide (Rch l x n v))) (b := (V s).filter (fun v => decide (Rch l x (n + 1) v))) (List.nodup_cons.2 ⟨fun hh => h2 (of_decide_eq_true (mem_VF.1 hh).2), up_nodup (filter_up (V_up _) _)⟩) (fun y hy => by
          rcases List.mem_cons.1 hy with e | e
          · rw [e]; exact mem_VF.2 ⟨hv, decide_eq_true h1⟩
          · have := mem_VF.1 e
            exact mem_VF.2 ⟨this.1, decide_eq_true (.inl (of_decide_eq_true this.2))⟩)
        rw [List.length_cons] at hle
        omega
      · exact .inl ⟨n, by omega, fun v hv => Classical.byContradiction (fun hc => hs ⟨v, hv, hc⟩)⟩
theorem rch_all {s : Int} {l : List S71} (hG : Gr.Good s l) (x : Int) (hx : 0 ≤ x ∧ x < s) (n : Nat) (hn : s ≤ n) (v : Int) (h : Rch l x n v) : Rch l x s.toNat v := by
  rcases rch_many hG x hx s.toNat with ⟨m, hm, hs⟩ | hs
  · exact rch_more hm (rch_stay hs n v (by omega) h)
  · have := @VF_len s (fun v => @decide (Rch l x s.toNat v) (Classical.propDecidable _))
    omega
/-- The ball of the program: what is reached in r steps. -/
theorem ball_impl (s : Int) (l : List S71) (hG : Gr.Good s l) (m : List Int) (hm : Net s l m) (x : Int) (hx : 0 ≤ x ∧ x < s) (r : Int) (hr0 : 0 ≤ r) (hr : r ≤ 9223372036854775807) : Cm (fun k => impl_net_ball.f k m x r) (fun b => M8 b ∧ ∀ v : Int, 0 ≤ v → v < 8 → (bit b v = true ↔ Rch l x r.toNat v)) := by
  unfold impl_net_ball.f
  have h8 := hG.2.1
  have h1 := one_ok x hx.1 (by omega)
  refine Cm.pos hx.1 ?_
  refine Cm.meas (fun k (z : Int × Int) => impl_net_ball.l0 k z.1 z.2 m) (fun z => z.1.toNat) (fun z => 0 ≤ z.1 ∧ z.1 ≤ r ∧ M8 z.2 ∧ ∀ v : Int, 0 ≤ v → v < 8 → (bit z.2 v = true ↔ Rch l x (r - z.1).toNat v)) (fun _ b => M8 b ∧ ∀ v : Int, 0 ≤ v → v < 8 → (bit b v = true ↔ Rch l x r.toNat v)) ?_ (r, shl .i64 1 x) ⟨hr0, Int.le_refl _, h1.1, fun v v0 v1 => ?_⟩
  · rintro ⟨i, q⟩ ⟨i0, ir, hq, hb⟩ ih
    dsimp only at i0 ir hq hb
    by_cases h : i > 0
    · refine Cm.step (fun k => by simp (disch := omega) only [impl_net_ball.l0, if_pos h, w64 (i - 1)]; try rfl) (Cm.bind (around_cm s l h8 m hm q hq) ?_)
      rintro t ⟨ht, htb⟩
      have hstep : ∀ v : Int, 0 ≤ v → v < 8 → (bit t v = true ↔ Rch l x ((r - i).toNat + 1) v) := fun v v0 v1 => by
        rw [htb v v0 v1]
        constructor
        · rintro (h2 | ⟨u, hu, h2, h3⟩)
          · exact .inl ((hb v v0 v1).1 h2)
          · exact .inr ⟨u, (hb u hu.1 (by omega)).1 h2, h3⟩
        · rintro (h2 | ⟨u, h2, h3⟩)
          · exact .inl ((hb v v0 v1).2 h2)
          · have hu := rch_in hG hx _ u h2
            exact .inr ⟨u, hu, (hb u hu.1 (by omega)).2 h2, h3⟩
      refine Cm.ite (fun e => Cm.now ⟨hq, fun v v0 v1 => ?_⟩) (fun e => ih (i - 1, t) ⟨by dsimp only; omega, by dsimp only; omega, ht, fun v v0 v1 => ?_⟩ (by dsimp only; omega))
      · rw [hb v v0 v1]
        refine ⟨fun h2 => rch_more (by omega) h2, fun h2 => rch_stay (n := (r - i).toNat) (fun w hw => ?_) r.toNat v (by omega) h2⟩
        have hwn := rch_in hG hx _ w hw
        have := (hstep w hwn.1 (by omega)).2 hw
        rw [e] at this
        exact (hb w hwn.1 (by omega)).1 this
      · dsimp only
        rw [hstep v v0 v1, show (r - (i - 1)).toNat = (r - i).toNat + 1 by omega]
    · refine Cm.step (fun k => by simp only [impl_net_ball.l0, if_neg h]; try rfl) (Cm.now ⟨hq, fun v v0 v1 => ?_⟩)
      rw [hb v v0 v1, show r - i = r by omega]
  · dsimp only
    rw [h1.2 v v0 (by omega), beq_iff_eq, show (r - r).toNat = 0 by omega]
    exact Iff.rfl
/-- A row that tells the distances from x up to d; -1 where more is needed. -/
def Lev (s : Int) (l : List S71) (x d : Int) (row : List Int) : Prop := (row.length : Int) = s ∧ ∀ v : Int, 0 ≤ v → v < s → (rd row v = -1 ∨ (0 ≤ rd row v ∧ rd row v ≤ d)) ∧ ∀ n : Nat, (n : Int) ≤ d → ((0 ≤ rd row v ∧ rd row v ≤ n) ↔ Rch l x n v)
/-- The row on the way from d to d + 1. -/
def Mid (s : Int) (l : List S71) (d y z : Int) (row0 row : List Int) : Prop := (row.length : Int) = s ∧ ∀ v : Int, 0 ≤ v → v < s → (0 ≤ rd row0 v → rd row v = rd row0 v) ∧ (rd row0 v = -1 → (rd row v = d + 1 ∧ ∃ u, (0 ≤ u ∧ u < s) ∧ rd row0 u = d ∧ near l u v = true) ∨ (rd row v = -1 ∧ ∀ u : Int, 0 ≤ u → (u < y ∨ (u = y ∧ v < z)) → rd row0 u = d → near l u v = false))
theorem mid_next {s : Int} {l : List S71} {d y z : Int} {row0 row : List Int} (h : Mid s l d y z row0 row) (hz : rd row0 z = -1 → rd row z = -1 → rd row0 y = d → near l y z = false) : Mid s l d y (z + 1) row0 row := by
  refine ⟨h.1, fun v v0 v1 => ⟨(h.2 v v0 v1).1, fun e => ?_⟩⟩
  rcases (h.2 v v0 v1).2 e with h1 | ⟨h1, h2⟩
  · exact .inl h1
  · refine .inr ⟨h1, fun u u0 hu hd => ?_⟩
    by_cases hvz : u = y ∧ v = z
    · obtain ⟨rfl, rfl⟩ := hvz
      exact hz e h1 hd
    · exact h2 u u0 (by omega) hd
theorem lev_next {s : Int} {l : List S71} (hG : Gr.Good s l) {x d : Int} (hx : 0 ≤ x ∧ x < s) (d0 : 0 ≤ d) {row0 row : List Int} (h : Lev s l x d row0) (hm : Mid s l d s 0 row0 row) : Lev s l x (d + 1) row := by
  refine ⟨hm.1, fun v v0 v1 => ?_⟩
  obtain ⟨k0, kr⟩ := h.2 v v0 v1
  obtain ⟨m0, m1⟩ := hm.2 v v0 v1
  have hold : ∀ u : Int, 0 ≤ u → u < s → ∀ n : Nat, (n : Int) ≤ d → ((0 ≤ rd row0 u ∧ rd row0 u ≤ n) ↔ Rch l x n u) := fun u u0 u1 => (h.2 u u0 u1).2
  -- a near one at d
  have hnear : ∀ u : Int, 0 ≤ u → u < s → rd row0 u = d → near l u v = true → Rch l x (d.toNat + 1) v := fun u u0 u1 hd hn => .inr ⟨u, (hold u u0 u1 d.toNat (by omega)).1 ⟨by omega, by omega⟩, hn⟩
  have hback : rd row0 v = -1 → Rch l x (d.toNat + 1) v → ∃ u, (0 ≤ u ∧ u < s) ∧ rd row0 u = d ∧ near l u v = true := fun e hr => by
    rcases hr with hr | ⟨u, hu, hn⟩
    · have := (kr d.toNat (by omega)).2 hr
      omega
    · have hun := rch_in hG hx _ u hu
      have h1 := (hold u hun.1 hun.2 d.toNat (by omega)).2 hu
      refine ⟨u, hun, ?_, hn⟩
      by_cases hlt : rd row0 u = d
      · exact hlt
      · exfalso
        have h2 : Rch l x ((rd row0 u).toNat + 1) v := .inr ⟨u, (hold u hun.1 hun.2 (rd row0 u).toNat (by omega)).1 ⟨h1.1, by omega⟩, hn⟩
        have := (kr ((rd row0 u).toNat + 1) (by omega)).2 h2
        omega
  refine ⟨?_, fun n hn => ?_⟩
  · rcases k0 with e | e
    · rcases m1 e with ⟨h1, _⟩ | ⟨h1, _⟩
      · exact .inr (by omega)
      · exact .inl h1
    · have := m0 e.1
      exact .inr (by omega)
  · by_cases hnd : (n : Int) ≤ d
    · rw [← kr n hnd]
      rcases k0 with e | e
      · rcases m1 e with ⟨h1, _⟩ | ⟨h1, _⟩ <;> (rw [h1, e]; try omega)
      · rw [m0 e.1]
    · have hn' : n = d.toNat + 1 := by omega
      subst hn'
      rcases k0 with e | e
      · rcases m1 e with ⟨h1, u, hu, hd, hn⟩ | ⟨h1, h2⟩
        · rw [h1]
          exact ⟨fun _ => hnear u hu.1 hu.2 hd hn, fun _ => by omega⟩
        · rw [h1]
          refine ⟨fun h3 => by omega, fun h3 => ?_⟩
          obtain ⟨u, hu, hd, hn⟩ := hback e h3
          rw [h2 u hu.1 (.inl hu.2) hd] at hn
          exact Bool.noConfusion hn
      · rw [m0 e.1]
        exact ⟨fun _ => .inl ((kr d.toNat (by omega)).1 ⟨e.1, by omega⟩), fun _ => by omega⟩
theorem dist_cm (s : Int) (l : List S71) (hl : l.length ≤ 1048576) (hG : Gr.Good s l) : Cm (fun k => spec_l2Dist.f k s l) (fun t => (t.length : Int) = s ∧ ∀ x : Int, 0 ≤ x → x < s → Lev s l x s (t.getD x.toNat [])) := by
  unfold spec_l2Dist.f
  have h8 := hG.2.1
  have h0 := hG.1
  refine Cm.up (fun k i a => spec_l2Dist.l0 k a i s l) s (fun i a => 0 ≤ i ∧ (a.length : Int) = i ∧ ∀ x : Int, 0 ≤ x → x < i → Lev s l x s (a.getD x.toNat [])) _ ?_ 0 [] h0 ⟨by omega, by simp, fun x a b => by omega⟩
  rintro i a hi ⟨i0, hal, ha⟩ ih
  by_cases h : i < s
  · refine Cm.step (fun k => by simp only [spec_l2Dist.l0, if_pos h]; try rfl) ?_
    refine Cm.up (fun k j b => spec_l2Dist.l1 k a i b j s l) s (fun j b => 0 ≤ j ∧ b = List.replicate j.toNat (-1)) _ ?_ 0 [] h0 ⟨by omega, rfl⟩
    rintro j b hj ⟨j0, rfl⟩ ihj
    by_cases hjs : j < s
    · refine Cm.step (fun k => by simp (disch := omega) only [spec_l2Dist.l1, if_pos hjs, w64 (j + 1)]; try rfl) (Cm.pos (by rw [List.length_replicate]; omega) (ihj _ hjs ⟨by omega, ?_⟩))
      rw [show (j + 1).toNat = j.toNat + 1 by omega, List.replicate_succ']
    · have hbl : ((List.replicate j.toNat (-1 : Int)).length : Int) = s := by rw [List.length_replicate]; omega
      have hrep : ∀ v : Int, 0 ≤ v → v < s → rd (List.replicate j.toNat (-1)) v = -1 := fun v v0 v1 => by
        unfold rd
        rw [List.getD_eq_getElem?_getD, List.getElem?_replicate, if_pos (by omega)]
        rfl
      refine Cm.step (fun k => by simp only [spec_l2Dist.l1, if_neg hjs]; try rfl) (Cm.pos i0 (Cm.pos (by omega) ?_))
      obtain ⟨b, hb⟩ : ∃ b, b = List.replicate j.toNat (-1 : Int) := ⟨_, rfl⟩
      rw [← hb] at hbl hrep ⊢
      clear hb ihj
      refine Cm.up (fun k d row => spec_l2Dist.l2 k a i row d s l) s (fun d row => 0 ≤ d ∧ Lev s l i d row) _ ?_ 0 _ h0 ⟨by omega, by rw [List.length_set]; exact hbl, fun v v0 v1 => ?_⟩
      · rintro d row0 hd ⟨d0, hlev⟩ ihd
        by_cases hds : d < s
        · refine Cm.step (fun k => by simp only [spec_l2Dist.l2, if_pos hds]; try rfl) ?_
          refine Cm.up (fun k y row => spec_l2Dist.l3 k a i row d y s l) s (fun y row => 0 ≤ y ∧ Mid s l d y 0 row0 row) _ ?_ 0 row0 h0 ⟨by omega, hlev.1, fun v v0 v1 => ⟨fun _ => rfl, fun e => .inr ⟨e, fun u u0 hu => by omega⟩⟩⟩
          rintro y row hy ⟨y0, hmid⟩ ihy
          by_cases hys : y < s
          · refine Cm.step (fun k => by simp only [spec_l2Dist.l3, if_pos hys]; try rfl) ?_
            refine Cm.up (fun k z row => spec_l2Dist.l4 k a i row d y z s l) s (fun z row => 0 ≤ z ∧ Mid s l d y z row0 row) _ ?_ 0 row h0 ⟨by omega, hmid⟩
            rintro z row hz ⟨z0, hmid⟩ ihz
            have hrl := hmid.1
            by_cases hzs : z < s
            · have hy2 := hmid.2 y y0 hys
              have hk := (hlev.2 y y0 hys).1
              have hkz := (hlev.2 z z0 hzs).1
              have hz2 := hmid.2 z z0 hzs
              have hyd : rd row y = d ↔ rd row0 y = d := by
                rcases hk with e | e
                · rcases hy2.2 e with ⟨h1, _⟩ | ⟨h1, _⟩ <;> (rw [h1, e]; try omega)
                · rw [hy2.1 e.1]
              refine Cm.step (fun k => by simp (disch := omega) only [spec_l2Dist.l4, if_pos hzs, if_pos y0, if_pos (show y < (row.length : Int) by omega), w64 (z + 1), w64 (d + 1)]; try rfl) ?_
              refine Cm.ite (fun e => Cm.pos z0 (Cm.pos (by omega) (Cm.ite (fun e2 => Cm.bindE (near_ev s l y z hl) (Cm.ite (fun e3 => ihz _ hzs ⟨by omega, ?_⟩) (fun e3 => ihz _ hzs ⟨by omega, mid_next hmid (fun _ _ _ => Bool.eq_false_iff.2 e3)⟩))) (fun e2 => ihz _ hzs ⟨by omega, mid_next hmid (fun _ h2 _ => by omega)⟩)))) (fun e => ihz _ hzs ⟨by omega, mid_next hmid (fun _ _ h3 => (e (hyd.2 h3)).elim)⟩)
              have hz0 : rd row0 z = -1 := by
                rcases hkz with h1 | h1
                · exact h1
                · have := hz2.1 h1.1
                  omega
              refine ⟨by rw [List.length_set]; exact hrl, fun v v0 v1 => ?_⟩
              rw [rd_set row z v _ z0 (by omega) v0]
              by_cases hvz : z = v
              · subst hvz
                rw [if_pos rfl]
                exact ⟨fun h1 => by omega, fun _ => .inl ⟨rfl, y, ⟨y0, hys⟩, hyd.1 e, e3⟩⟩
              · rw [if_neg hvz]
                refine ⟨(hmid.2 v v0 v1).1, fun h1 => ?_⟩
                rcases (hmid.2 v v0 v1).2 h1 with h2 | ⟨h2, h3⟩
                · exact .inl h2
                · exact .inr ⟨h2, fun u u0 hu hd => h3 u u0 (by omega) hd⟩
            · refine Cm.step (fun k => by simp (disch := omega) only [spec_l2Dist.l4, if_neg hzs, w64 (y + 1)]; try rfl) (ihy _ hys ⟨by omega, hmid.1, fun v v0 v1 => ⟨(hmid.2 v v0 v1).1, fun e => ?_⟩⟩)
              rcases (hmid.2 v v0 v1).2 e with h1 | ⟨h1, h2⟩
              · exact .inl h1
              · exact .inr ⟨h1, fun u u0 hu hd => h2 u u0 (by omega) hd⟩
          · have hsy : y = s := by omega
            rw [hsy] at hmid
            refine Cm.step (fun k => by simp (disch := omega) only [spec_l2Dist.l3, if_neg hys, w64 (d + 1)]; try rfl) (ihd _ hds ⟨by omega, lev_next hG ⟨i0, h⟩ d0 hlev hmid⟩)
        · refine Cm.step (fun k => by simp (disch := omega) only [spec_l2Dist.l2, if_neg hds, w64 (i + 1)]; try rfl) (Cm.pos (by omega) (ih _ h ⟨by omega, by rw [List.length_append, List.length_singleton]; omega, fun x x0 x1 => ?_⟩))
          rw [List.getD_eq_getElem?_getD]
          by_cases hxi : x < i
          · rw [List.getElem?_append_left (by omega), ← List.getD_eq_getElem?_getD]
            exact ha x x0 hxi
          · rw [List.getElem?_append_right (by omega), show x.toNat - a.length = 0 by omega, show x = i by omega]
            rw [show s = d by omega] at hlev ⊢
            exact hlev
      · rw [rd_set b i v _ i0 (by omega) v0]
        by_cases hv : i = v
        · rw [if_pos hv]
          refine ⟨.inr (by omega), fun n hn => ?_⟩
          have hn0 : n = 0 := by omega
          subst hn0
          exact ⟨fun _ => hv.symm, fun _ => by omega⟩
        · rw [if_neg hv, hrep v v0 v1]
          refine ⟨.inl rfl, fun n hn => ?_⟩
          have hn0 : n = 0 := by omega
          subst hn0
          exact ⟨fun h1 => by omega, fun h1 => (hv (show v = i from h1).symm).elim⟩
  · refine Cm.step (fun k => by simp only [spec_l2Dist.l0, if_neg h]; try rfl) (Cm.now ⟨by omega, fun x x0 x1 => ha x x0 (by omega)⟩)
end Go.Proofs.Ytcjddikalgnhpaa.Gr
