/- Lists of pairs in order: what is in them tells them; no conditions beyond those that each theorem names. -/
import Derived.Test.YtooboeahekdibaaGrM
import Derived.Test.YtooboeahekdibaaGrP1
import Derived.Test.YtooboeahekdibaaGrL
namespace Go.Proofs.Ytooboeahekdibaa.Gr
open Go.RowKit Go.Proofs.Ytooboeahekdibaa.P Go.Proofs.YtooboeahekdibaaW.PrintWords Go.Proofs.YtooboeahekdibaaW.PrintLast Go.Proofs.YtooboeahekdibaaW.PrintMore

def ltP (a b : S59) : Prop := a.f0 < b.f0 ∨ (a.f0 = b.f0 ∧ a.f1 < b.f1)
abbrev Up2 (l : List S59) : Prop := l.Pairwise ltP
theorem ltP_irr {a : S59} (h : ltP a a) : False := by unfold ltP at h; omega
theorem ltP_trans {a b c : S59} (h : ltP a b) (k : ltP b c) : ltP a c := by unfold ltP at *; omega
theorem ltP_asymm {a b : S59} (h : ltP a b) (k : ltP b a) : False := ltP_irr (ltP_trans h k)
theorem ltP_tri (a b : S59) (h : ¬ ltP a b) (k : ¬ ltP b a) : a = b := by
  cases a; cases b
  unfold ltP at *
  dsimp only at *
  congr 1 <;> omega
theorem up2_ext : ∀ {a b : List S59}, Up2 a → Up2 b → (∀ x, x ∈ a ↔ x ∈ b) → a = b
  | [], [], _, _, _ => rfl
  | [], y :: b, _, _, h => by have := (h y).2 List.mem_cons_self; cases this
  | x :: a, [], _, _, h => by have := (h x).1 List.mem_cons_self; cases this
  | x :: a, y :: b, ha, hb, h => by
    have ha' := List.pairwise_cons.1 ha
    have hb' := List.pairwise_cons.1 hb
    have e : x = y := by
      rcases List.mem_cons.1 ((h x).1 List.mem_cons_self) with e | e
      · exact e
      · rcases List.mem_cons.1 ((h y).2 List.mem_cons_self) with e' | e'
        · exact e'.symm
        · exact (ltP_asymm (hb'.1 x e) (ha'.1 y e')).elim
    subst e
    congr 1
    refine up2_ext ha'.2 hb'.2 (fun z => ⟨fun hz => ?_, fun hz => ?_⟩)
    · rcases List.mem_cons.1 ((h z).1 (List.mem_cons_of_mem _ hz)) with e | e
      · subst e; exact (ltP_irr (ha'.1 z hz)).elim
      · exact e
    · rcases List.mem_cons.1 ((h z).2 (List.mem_cons_of_mem _ hz)) with e | e
      · subst e; exact (ltP_irr (hb'.1 z hz)).elim
      · exact e

theorem sorted_up2 {l : List S59} (h : Sorted l) : Up2 l := by
  have key : ∀ (d : Nat) (i : Int), 0 ≤ i → i + (d : Int) + 1 < l.length → ltP (rd_T59 l i) (rd_T59 l (i + d + 1)) := by
    intro d
    induction d with
    | zero =>
      intro i h0 h1
      have := h (i + 1) (by omega) (by omega)
      rw [show i + 1 - 1 = i by omega] at this
      rw [show i + ((0 : Nat) : Int) + 1 = i + 1 by omega]
      exact this
    | succ d ih =>
      intro i h0 h1
      have a := ih i h0 (by omega)
      have b := h (i + (d : Int) + 1 + 1) (by omega) (by omega)
      rw [show i + (d : Int) + 1 + 1 - 1 = i + d + 1 by omega] at b
      rw [show i + ((d + 1 : Nat) : Int) + 1 = i + (d : Int) + 1 + 1 by omega]
      exact ltP_trans a b
  refine List.pairwise_iff_getElem.2 (fun i j hi hj hij => ?_)
  have := key (j - i - 1) i (by omega) (by omega)
  rw [show (i : Int) + ((j - i - 1 : Nat) : Int) + 1 = (j : Int) by omega] at this
  rw [← rdT_eq l i hi, ← rdT_eq l j hj]
  exact this
theorem good_mem {s : Int} {l : List S59} (h : Good s l) {e : S59} (he : e ∈ l) : 0 ≤ e.f0 ∧ e.f0 < e.f1 ∧ e.f1 < s := by
  obtain ⟨i, h0, h1, rfl⟩ := mem_rdT he
  exact h.2.2 i h0 h1

theorem nearF_iff (l : List S59) (u v : Int) : ∀ (d : Nat) (i : Int), 0 ≤ i → (l.length : Int) - i = d → (nearF l u v d i = true ↔ ∃ j : Int, i ≤ j ∧ j < l.length ∧ (rd_T59 l j = ⟨u, v⟩ ∨ rd_T59 l j = ⟨v, u⟩)) := by
  intro d
  induction d with
  | zero =>
    intro i h0 hd
    constructor
    · intro h; cases h
    · rintro ⟨j, h1, h2, _⟩; omega
  | succ d ih =>
    intro i h0 hd
    unfold nearF
    rw [Bool.or_eq_true, Bool.or_eq_true, ih (i + 1) (by omega) (by omega), Bool.and_eq_true, Bool.and_eq_true, beq_iff_eq, beq_iff_eq, beq_iff_eq, beq_iff_eq]
    have ex : ∀ a b : Int, (rd_T59 l i).f0 = a ∧ (rd_T59 l i).f1 = b ↔ rd_T59 l i = ⟨a, b⟩ := fun a b => ⟨fun ⟨h1, h2⟩ => by rw [← h1, ← h2], fun h => by rw [h]; exact ⟨rfl, rfl⟩⟩
    rw [ex, ex]
    constructor
    · rintro ((h | h) | ⟨j, h1, h2, h3⟩)
      · exact ⟨i, by omega, by omega, .inl h⟩
      · exact ⟨i, by omega, by omega, .inr h⟩
      · exact ⟨j, by omega, h2, h3⟩
    · rintro ⟨j, h1, h2, h3⟩
      by_cases e : j = i
      · subst e
        exact .inl h3
      · exact .inr ⟨j, by omega, h2, h3⟩
theorem near_iff (l : List S59) (u v : Int) : near l u v = true ↔ (⟨u, v⟩ : S59) ∈ l ∨ (⟨v, u⟩ : S59) ∈ l := by
  unfold near
  rw [nearF_iff l u v l.length 0 (by omega) (by omega)]
  constructor
  · rintro ⟨j, h1, h2, h3 | h3⟩
    · exact .inl (h3 ▸ rdT_mem l j h1 h2)
    · exact .inr (h3 ▸ rdT_mem l j h1 h2)
  · rintro (h | h)
    · obtain ⟨j, h0, h1, h2⟩ := mem_rdT h
      exact ⟨j, h0, h1, .inl h2⟩
    · obtain ⟨j, h0, h1, h2⟩ := mem_rdT h
      exact ⟨j, h0, h1, .inr h2⟩
theorem near_symm (l : List S59) (u v : Int) : near l u v = near l v u := by
  rw [Bool.eq_iff_iff, near_iff, near_iff]
  exact Or.comm
theorem near_in {s : Int} {l : List S59} (h : Good s l) {u v : Int} (hn : near l u v = true) : (0 ≤ u ∧ u < s) ∧ (0 ≤ v ∧ v < s) ∧ u ≠ v := by
  rcases (near_iff l u v).1 hn with e | e
  · have := good_mem h e
    dsimp only at this
    omega
  · have := good_mem h e
    dsimp only at this
    omega
theorem near_lt {s : Int} {l : List S59} (h : Good s l) {u v : Int} (huv : u < v) : near l u v = true ↔ (⟨u, v⟩ : S59) ∈ l := by
  rw [near_iff]
  refine ⟨fun k => k.elim id (fun e => ?_), .inl⟩
  have := good_mem h e
  dsimp only at this
  omega

theorem mem_rowF (h : Int → Int → Bool) (x : Int) (e : S59) : ∀ (d : Nat) (y : Int), e ∈ rowF h x d y ↔ e.f0 = x ∧ y ≤ e.f1 ∧ e.f1 < y + d ∧ h x e.f1 = true
  | 0, y => by
    constructor
    · intro h; cases h
    · rintro ⟨_, h1, h2, _⟩; omega
  | d + 1, y => by
    unfold rowF
    rw [List.mem_append, mem_rowF h x e d (y + 1)]
    constructor
    · rintro (hm | ⟨h0, h1, h2, h3⟩)
      · by_cases hc : h x y = true
        · rw [if_pos hc, List.mem_singleton] at hm
          subst hm
          exact ⟨rfl, by show y ≤ y; omega, by show y < y + _; omega, hc⟩
        · rw [if_neg hc] at hm; cases hm
      · exact ⟨h0, by omega, by omega, h3⟩
    · rintro ⟨h0, h1, h2, h3⟩
      by_cases hy : e.f1 = y
      · left
        rw [← hy, if_pos h3, List.mem_singleton, ← h0]
      · exact .inr ⟨h0, by omega, by omega, h3⟩
theorem rowF_up (h : Int → Int → Bool) (x : Int) : ∀ (d : Nat) (y : Int), Up2 (rowF h x d y)
  | 0, y => List.Pairwise.nil
  | d + 1, y => by
    unfold rowF
    refine List.pairwise_append.2 ⟨?_, rowF_up h x d (y + 1), fun a ha b hb => ?_⟩
    · split
      · exact List.pairwise_singleton _ _
      · exact List.Pairwise.nil
    · have hb' := (mem_rowF h x b d (y + 1)).1 hb
      by_cases hc : h x y = true
      · rw [if_pos hc, List.mem_singleton] at ha
        subst ha
        exact .inr ⟨hb'.1.symm, by show y < _; omega⟩
      · rw [if_neg hc] at ha; cases ha
theorem mem_allF (h : Int → Int → Bool) (e : S59) : ∀ (d : Nat) (x : Int), e ∈ allF h d x ↔ x ≤ e.f0 ∧ e.f0 < e.f1 ∧ e.f1 < x + d ∧ h e.f0 e.f1 = true
  | 0, x => by
    constructor
    · intro h; cases h
    · rintro ⟨h1, h2, h3, _⟩; omega
  | d + 1, x => by
    unfold allF
    rw [List.mem_append, mem_rowF, mem_allF h e d (x + 1)]
    constructor
    · rintro (⟨h0, h1, h2, h3⟩ | ⟨h0, h1, h2, h3⟩)
      · exact ⟨by omega, by omega, by omega, by rw [h0]; exact h3⟩
      · exact ⟨by omega, h1, by omega, h3⟩
    · rintro ⟨h0, h1, h2, h3⟩
      by_cases hx : e.f0 = x
      · exact .inl ⟨hx, by omega, by omega, by rw [← hx]; exact h3⟩
      · exact .inr ⟨by omega, h1, by omega, h3⟩
theorem allF_up (h : Int → Int → Bool) : ∀ (d : Nat) (x : Int), Up2 (allF h d x)
  | 0, x => List.Pairwise.nil
  | d + 1, x => by
    unfold allF
    refine List.pairwise_append.2 ⟨rowF_up h x d (x + 1), allF_up h d (x + 1), fun a ha b hb => ?_⟩
    have ha' := (mem_rowF h x a d (x + 1)).1 ha
    have hb' := (mem_allF h b d (x + 1)).1 hb
    exact .inl (by omega)
theorem mem_pairs {h : Int → Int → Bool} {n : Int} {e : S59} : e ∈ pairs h n ↔ 0 ≤ e.f0 ∧ e.f0 < e.f1 ∧ e.f1 < n ∧ h e.f0 e.f1 = true := by
  unfold pairs
  rw [mem_allF]
  constructor
  · rintro ⟨h0, h1, h2, h3⟩
    exact ⟨h0, h1, by omega, h3⟩
  · rintro ⟨h0, h1, h2, h3⟩
    exact ⟨h0, h1, by omega, h3⟩
theorem pairs_up (h : Int → Int → Bool) (n : Int) : Up2 (pairs h n) := allF_up h _ _
/-- A good graph's pairs are those that are near. -/
theorem good_pairs {s : Int} {l : List S59} (h : Good s l) (hs : Sorted l) : l = pairs (near l) s := by
  refine up2_ext (sorted_up2 hs) (pairs_up _ _) (fun e => ?_)
  rw [mem_pairs]
  constructor
  · intro he
    have := good_mem h he
    exact ⟨this.1, this.2.1, this.2.2, (near_iff l _ _).2 (.inl he)⟩
  · rintro ⟨h0, h1, h2, h3⟩
    exact (near_lt h h1).1 h3

end Go.Proofs.Ytooboeahekdibaa.Gr
