/- Nodes in order, and rising lists of them; no conditions beyond those that each theorem names. -/
import Derived.Test.YtooboeahekdibaaGrC
namespace Go.Proofs.Ytooboeahekdibaa.Gr
open Go.RowKit Go.Proofs.Ytooboeahekdibaa.P Go.Proofs.YtooboeahekdibaaW.PrintWords Go.Proofs.YtooboeahekdibaaW.PrintLast

/-- The numbers below n, in order. -/
def V (n : Int) : List Int := (List.range n.toNat).map Int.ofNat
theorem V_zero : V 0 = [] := rfl
theorem V_neg {n : Int} (h : n ≤ 0) : V n = [] := by unfold V; rw [show n.toNat = 0 by omega]; rfl
theorem V_succ {n : Int} (h : 0 ≤ n) : V (n + 1) = V n ++ [n] := by
  unfold V
  rw [show (n + 1).toNat = n.toNat + 1 by omega, List.range_succ, List.map_append]
  congr 1
  simp [Int.toNat_of_nonneg h]
theorem V_len (n : Int) : (V n).length = n.toNat := by unfold V; simp
theorem mem_V {n x : Int} : x ∈ V n ↔ 0 ≤ x ∧ x < n := by
  unfold V
  rw [List.mem_map]
  constructor
  · rintro ⟨a, h, rfl⟩
    have := List.mem_range.1 h
    have e : Int.ofNat a = (a : Int) := rfl
    omega
  · rintro ⟨h0, h1⟩
    exact ⟨x.toNat, List.mem_range.2 (by omega), Int.toNat_of_nonneg h0⟩
/-- Rising. -/
abbrev Up (l : List Int) : Prop := l.Pairwise (· < ·)
theorem V_up (n : Int) : Up (V n) := by
  unfold V Up
  rw [List.pairwise_map]
  exact List.Pairwise.imp (fun h => Int.ofNat_lt.2 h) List.pairwise_lt_range
theorem filter_up {l : List Int} (h : Up l) (p : Int → Bool) : Up (l.filter p) := List.Pairwise.filter p h
theorem up_ext : ∀ {a b : List Int}, Up a → Up b → (∀ x, x ∈ a ↔ x ∈ b) → a = b
  | [], [], _, _, _ => rfl
  | [], y :: b, _, _, h => by have := (h y).2 List.mem_cons_self; cases this
  | x :: a, [], _, _, h => by have := (h x).1 List.mem_cons_self; cases this
  | x :: a, y :: b, ha, hb, h => by
    have ha' := List.pairwise_cons.1 ha
    have hb' := List.pairwise_cons.1 hb
    have e : x = y := by
      rcases List.mem_cons.1 ((h x).1 List.mem_cons_self) with e | e
      · exact e
      · rcases List.mem_cons.1 ((h y).2 List.mem_cons_self) with e' | e'
        · exact e'.symm
        · have := hb'.1 x e
          have := ha'.1 y e'
          omega
    subst e
    congr 1
    refine up_ext ha'.2 hb'.2 (fun z => ⟨fun hz => ?_, fun hz => ?_⟩)
    · rcases List.mem_cons.1 ((h z).1 (List.mem_cons_of_mem _ hz)) with e | e
      · subst e; have := ha'.1 z hz; omega
      · exact e
    · rcases List.mem_cons.1 ((h z).2 (List.mem_cons_of_mem _ hz)) with e | e
      · subst e; have := hb'.1 z hz; omega
      · exact e
theorem mem_VF {n x : Int} {p : Int → Bool} : x ∈ (V n).filter p ↔ (0 ≤ x ∧ x < n) ∧ p x = true := by rw [List.mem_filter, mem_V]
theorem VF_congr {n : Int} {p q : Int → Bool} (h : ∀ x, 0 ≤ x → x < n → p x = q x) : (V n).filter p = (V n).filter q :=
  List.filter_congr (fun x hx => h x (mem_V.1 hx).1 (mem_V.1 hx).2)
theorem VF_succ {n : Int} {p : Int → Bool} (h : 0 ≤ n) : (V (n + 1)).filter p = (V n).filter p ++ (if p n = true then [n] else []) := by
  rw [V_succ h, List.filter_append, List.filter_cons]
  rfl
theorem VF_cut {m n : Int} {p : Int → Bool} (hmn : m ≤ n) (hp : ∀ x, m ≤ x → p x = false) : (V n).filter p = (V m).filter p :=
  up_ext (filter_up (V_up _) _) (filter_up (V_up _) _) (fun x => by
    rw [mem_VF, mem_VF]
    constructor
    · rintro ⟨⟨h0, h1⟩, h2⟩
      by_cases h : x < m
      · exact ⟨⟨h0, h⟩, h2⟩
      · rw [hp x (by omega)] at h2; cases h2
    · rintro ⟨⟨h0, h1⟩, h2⟩
      exact ⟨⟨h0, by omega⟩, h2⟩)
theorem VF_len {n : Int} {p : Int → Bool} : ((V n).filter p).length ≤ n.toNat := by
  have := List.length_filter_le p (V n)
  rw [V_len] at this
  exact this
/-- A rising list of numbers below n is a filter of them. -/
theorem up_filter {n : Int} {l : List Int} (h : Up l) (hm : ∀ x ∈ l, 0 ≤ x ∧ x < n) : l = (V n).filter (fun x => decide (x ∈ l)) :=
  up_ext h (filter_up (V_up _) _) (fun x => by
    rw [mem_VF, decide_eq_true_eq]
    exact ⟨fun hx => ⟨hm x hx, hx⟩, fun hx => hx.2⟩)
theorem up_nodup {l : List Int} (h : Up l) : l.Nodup := List.Pairwise.imp (fun h => by omega) h
theorem V_nodup (n : Int) : (V n).Nodup := up_nodup (V_up n)

theorem take_rd (l : List Int) (i : Int) (h0 : 0 ≤ i) (h1 : i < l.length) : l.take (i + 1).toNat = l.take i.toNat ++ [rd l i] := by
  rw [show (i + 1).toNat = i.toNat + 1 by omega, List.take_succ_eq_append_getElem (by omega)]
  congr 2
  unfold rd
  rw [List.getD_eq_getElem?_getD, List.getElem?_eq_getElem (by omega)]
  rfl
theorem take_all (l : List Int) (i : Int) (h : (l.length : Int) ≤ i) : l.take i.toNat = l := List.take_of_length_le (by omega)
theorem rd_mem (l : List Int) (i : Int) (h0 : 0 ≤ i) (h1 : i < l.length) : rd l i ∈ l := by
  unfold rd
  rw [List.getD_eq_getElem?_getD, List.getElem?_eq_getElem (by omega)]
  exact List.getElem_mem _
theorem mem_rd {l : List Int} {x : Int} (h : x ∈ l) : ∃ i : Int, 0 ≤ i ∧ i < l.length ∧ rd l i = x := by
  obtain ⟨j, hj, rfl⟩ := List.mem_iff_getElem.1 h
  refine ⟨j, by omega, by omega, ?_⟩
  unfold rd
  rw [List.getD_eq_getElem?_getD, Int.toNat_natCast, List.getElem?_eq_getElem hj]
  rfl
theorem rd_eq (l : List Int) (i : Nat) (h : i < l.length) : rd l i = l[i] := by
  unfold rd
  rw [List.getD_eq_getElem?_getD, Int.toNat_natCast, List.getElem?_eq_getElem h]
  rfl
theorem rd_ext {a b : List Int} (h : a.length = b.length) (e : ∀ i : Int, 0 ≤ i → i < a.length → rd a i = rd b i) : a = b := by
  apply List.ext_getElem h
  intro i h1 h2
  rw [← rd_eq a i h1, ← rd_eq b i h2]
  exact e i (by omega) (by omega)
theorem up_rd {l : List Int} (h : Up l) (i j : Int) (h0 : 0 ≤ i) (h1 : i < j) (h2 : j < l.length) : rd l i < rd l j := by
  have := List.pairwise_iff_getElem.1 h i.toNat j.toNat (by omega) (by omega) (by omega)
  rw [← rd_eq l _ (by omega), ← rd_eq l _ (by omega), Int.toNat_of_nonneg h0, Int.toNat_of_nonneg (by omega)] at this
  exact this
theorem up_of_rd {l : List Int} (h : ∀ i : Int, 0 < i → i < l.length → rd l (i - 1) < rd l i) : Up l := by
  have key : ∀ (d : Nat) (i : Int), 0 ≤ i → i + (d : Int) + 1 < l.length → rd l i < rd l (i + d + 1) := by
    intro d
    induction d with
    | zero =>
      intro i h0 h1
      have := h (i + 1) (by omega) (by omega)
      rw [show i + 1 - 1 = i by omega] at this
      simpa using this
    | succ d ih =>
      intro i h0 h1
      have a := ih i h0 (by omega)
      have b := h (i + (d : Int) + 1 + 1) (by omega) (by omega)
      rw [show i + (d : Int) + 1 + 1 - 1 = i + d + 1 by omega] at b
      rw [show i + ((d + 1 : Nat) : Int) + 1 = i + (d : Int) + 1 + 1 by omega]
      omega
  refine List.pairwise_iff_getElem.2 (fun i j hi hj hij => ?_)
  have := key (j - i - 1) i (by omega) (by omega)
  rw [show (i : Int) + ((j - i - 1 : Nat) : Int) + 1 = (j : Int) by omega] at this
  rw [← rd_eq l i hi, ← rd_eq l j hj]
  exact this

/-- A list as long as a list of different numbers that are all in it has no others. -/
theorem sub_all : ∀ {a b : List Int}, a.Nodup → (∀ x ∈ a, x ∈ b) → b.length ≤ a.length → ∀ x ∈ b, x ∈ a
  | [], b, _, _, hl, x, hx => by
    have : b = [] := List.length_eq_zero_iff.1 (by simpa using hl)
    subst this
    exact hx
  | y :: a, b, hn, hs, hl, x, hx => by
    have hn' := List.nodup_cons.1 hn
    have hy := hs y List.mem_cons_self
    by_cases e : x = y
    · subst e; exact List.mem_cons_self
    · have h1 : ∀ z ∈ a, z ∈ b.erase y := fun z hz => (List.mem_erase_of_ne (show z ≠ y from fun e' => hn'.1 (by rw [← e']; exact hz))).2 (hs z (List.mem_cons_of_mem _ hz))
      have h2 : (b.erase y).length ≤ a.length := by
        rw [List.length_erase_of_mem hy]
        rw [List.length_cons] at hl
        omega
      exact List.mem_cons_of_mem _ (sub_all hn'.2 h1 h2 x ((List.mem_erase_of_ne e).2 hx))
theorem nodup_le : ∀ {a b : List Int}, a.Nodup → (∀ x ∈ a, x ∈ b) → a.length ≤ b.length
  | [], _, _, _ => by simp
  | y :: a, b, hn, hs => by
    have hn' := List.nodup_cons.1 hn
    have hy := hs y List.mem_cons_self
    have h1 : ∀ z ∈ a, z ∈ b.erase y := fun z hz => (List.mem_erase_of_ne (show z ≠ y from fun e' => hn'.1 (by rw [← e']; exact hz))).2 (hs z (List.mem_cons_of_mem _ hz))
    have h2 := nodup_le hn'.2 h1
    rw [List.length_erase_of_mem hy] at h2
    have h3 : 0 < b.length := List.length_pos_of_mem hy
    rw [List.length_cons]
    omega

end Go.Proofs.Ytooboeahekdibaa.Gr
