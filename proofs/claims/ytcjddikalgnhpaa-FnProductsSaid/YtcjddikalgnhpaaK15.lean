/- Functions of the program as Lean functions, that each call comes to what they say, and what holds of them; part 15 of 15; no conditions beyond those that each theorem names. -/
import Derived.KernelRfl
import Derived.Test.YtcjddikalgnhpaaK1
import Derived.Test.YtcjddikalgnhpaaK5
import Derived.Test.YtcjddikalgnhpaaK6
import Derived.Test.YtcjddikalgnhpaaK7
import Derived.Test.YtcjddikalgnhpaaK8
import Derived.Test.YtcjddikalgnhpaaK9
import Derived.Test.YtcjddikalgnhpaaK10
import Derived.Test.YtcjddikalgnhpaaK11
import Derived.Test.YtcjddikalgnhpaaK12
import Derived.Test.YtcjddikalgnhpaaK13
import Derived.Test.YtcjddikalgnhpaaK14
namespace Go.Proofs.Ytcjddikalgnhpaa.Gr
open Go.RowKit Go.Proofs.Ytcjddikalgnhpaa.P Go.Proofs.YtcjddikalgnhpaaW.PrintWords Go.Proofs.YtcjddikalgnhpaaW.PrintLast Go.Proofs.YtcjddikalgnhpaaW.PrintMore
theorem prodH_symm (b : Bool) (l m : List S71) (t x y : Int) : prodH b l m t x y = prodH b l m t y x := by
  unfold prodH
  rw [near_symm l (Int.tdiv x t) (Int.tdiv y t), near_symm m (Int.tmod x t) (Int.tmod y t), show decide (Int.tdiv x t = Int.tdiv y t) = decide (Int.tdiv y t = Int.tdiv x t) from by rw [decide_eq_decide]; exact eq_comm, show decide (Int.tmod x t = Int.tmod y t) = decide (Int.tmod y t = Int.tmod x t) from by rw [decide_eq_decide]; exact eq_comm]
theorem prodH_irr {s t : Int} (b : Bool) {l m : List S71} (hG : Gr.Good s l) (kG : Gr.Good t m) (x : Int) : prodH b l m t x x = false := by
  have e1 : near l (Int.tdiv x t) (Int.tdiv x t) = false := by
    rw [Bool.eq_false_iff]
    exact fun h => (near_in hG h).2.2 rfl
  have e2 : near m (Int.tmod x t) (Int.tmod x t) = false := by
    rw [Bool.eq_false_iff]
    exact fun h => (near_in kG h).2.2 rfl
  unfold prodH
  rw [e1, e2]
  simp
/-- Nodes of the product that are near. -/
theorem near_prod {s t : Int} (b : Bool) {l m : List S71} (hG : Gr.Good s l) (kG : Gr.Good t m) {x y : Int} (hx : 0 ≤ x ∧ x < s * t) (hy : 0 ≤ y ∧ y < s * t) : near (pairs (prodH b l m t) (s * t)) x y = prodH b l m t x y := by
  rw [Bool.eq_iff_iff, near_iff, mem_pairs, mem_pairs]
  dsimp only
  constructor
  · rintro (⟨_, _, _, h⟩ | ⟨_, _, _, h⟩)
    · exact h
    · rw [prodH_symm]; exact h
  · intro h
    rcases Int.lt_trichotomy x y with c | c | c
    · exact .inl ⟨hx.1, c, hy.2, h⟩
    · rw [c, prodH_irr b hG kG] at h
      cases h
    · exact .inr ⟨hy.1, c, hx.2, by rw [prodH_symm]; exact h⟩
/-- A pair's place. -/
theorem idx_facts {s t a c : Int} (ha : 0 ≤ a ∧ a < s) (hc : 0 ≤ c ∧ c < t) : (0 ≤ a * t + c ∧ a * t + c < s * t) ∧ Int.tdiv (a * t + c) t = a ∧ Int.tmod (a * t + c) t = c := by
  have h1 : 0 ≤ a * t := Int.mul_nonneg ha.1 (by omega)
  have h2 : (a + 1) * t ≤ s * t := Int.mul_le_mul_of_nonneg_right (by omega) (by omega)
  have h3 : (a + 1) * t = a * t + t := by rw [Int.add_mul, Int.one_mul]
  refine ⟨⟨by omega, by omega⟩, ?_, ?_⟩
  · rw [Int.tdiv_eq_ediv_of_nonneg (by omega), Int.add_comm, Int.add_mul_ediv_right _ _ (by omega), Int.ediv_eq_zero_of_lt hc.1 hc.2, Int.zero_add]
  · rw [Int.tmod_eq_emod_of_nonneg (by omega), Int.add_comm, Int.add_mul_emod_self_right, Int.emod_eq_of_lt hc.1 hc.2]
theorem idx_of {s t x : Int} (ht : 0 < t) (hx : 0 ≤ x ∧ x < s * t) : (0 ≤ Int.tdiv x t ∧ Int.tdiv x t < s) ∧ (0 ≤ Int.tmod x t ∧ Int.tmod x t < t) ∧ x = Int.tdiv x t * t + Int.tmod x t := by
  obtain ⟨a0, a1, a2, a3, a4⟩ := div_facts (s := s) ht hx.1 hx.2
  exact ⟨⟨a0, a1⟩, ⟨a2, a3⟩, by rw [Int.mul_comm]; exact a4⟩
theorem good_prod {s t : Int} (b : Bool) {l m : List S71} (h0 : 0 ≤ s * t) (h8 : s * t ≤ 8) : Gr.Good (s * t) (pairs (prodH b l m t) (s * t)) :=
  ⟨h0, h8, fun i i0 i1 => by
    have h := mem_pairs.1 (List.mem_of_getElem? (rd_lt _ i i0 i1))
    exact ⟨h.1, h.2.1, h.2.2.1⟩⟩
/-- In the flat product steps add up. -/
theorem rch_flat {s t : Int} {l m : List S71} (hG : Gr.Good s l) (kG : Gr.Good t m) (ht : 0 < t) (h8 : s * t ≤ 8) {x : Int} (hx : 0 ≤ x ∧ x < s * t) : ∀ (n : Nat) (y : Int), (0 ≤ y ∧ y < s * t) → (Rch (pairs (prodH false l m t) (s * t)) x n y ↔ ∃ i j : Nat, i + j ≤ n ∧ Rch l (Int.tdiv x t) i (Int.tdiv y t) ∧ Rch m (Int.tmod x t) j (Int.tmod y t)) := by
  have gP := good_prod (b := false) (l := l) (m := m) (by omega : 0 ≤ s * t) h8
  obtain ⟨xa, xb, xe⟩ := idx_of ht hx
  have fst : ∀ (i : Nat) (z : Int), Rch l (Int.tdiv x t) i z → Rch (pairs (prodH false l m t) (s * t)) x i (z * t + Int.tmod x t) := by
    intro i
    induction i with
    | zero => intro z hz; rw [show z = Int.tdiv x t from hz]; exact xe.symm
    | succ i ih =>
      rintro z (hz | ⟨w, h1, h2⟩)
      · exact .inl (ih z hz)
      · refine .inr ⟨_, ih w h1, ?_⟩
        have hw := rch_in hG xa i w h1
        have hz := (near_in hG h2).2.1
        obtain ⟨p1, p2, p3⟩ := idx_facts hw xb
        obtain ⟨q1, q2, q3⟩ := idx_facts hz xb
        rw [near_prod false hG kG p1 q1]
        unfold prodH
        rw [p2, q2, p3, q3, h2]
        simp
  have snd : ∀ (p : Int), (0 ≤ p ∧ p < s * t) → ∀ (j : Nat) (z : Int), Rch m (Int.tmod p t) j z → Rch (pairs (prodH false l m t) (s * t)) p j (Int.tdiv p t * t + z) := by
    intro p hp
    obtain ⟨pa, pb, pe⟩ := idx_of ht hp
    intro j
    induction j with
    | zero => intro z hz; rw [show z = Int.tmod p t from hz]; exact pe.symm
    | succ j ih =>
      rintro z (hz | ⟨w, h1, h2⟩)
      · exact .inl (ih z hz)
      · refine .inr ⟨_, ih w h1, ?_⟩
        have hw := rch_in kG pb j w h1
        have hz := (near_in kG h2).2.1
        obtain ⟨p1, p2, p3⟩ := idx_facts pa hw
        obtain ⟨q1, q2, q3⟩ := idx_facts pa hz
        rw [near_prod false hG kG p1 q1]
        unfold prodH
        rw [p2, q2, p3, q3, h2]
        simp
  intro n
  induction n with
  | zero =>
    intro y hy
    obtain ⟨ya, yb, ye⟩ := idx_of ht hy
    constructor
    · intro h
      rw [show y = x from h]
      exact ⟨0, 0, by omega, rfl, rfl⟩
    · rintro ⟨i, j, hij, h1, h2⟩
      obtain rfl : i = 0 := by omega
      obtain rfl : j = 0 := by omega
      show y = x
      rw [ye, xe, show Int.tdiv y t = Int.tdiv x t from h1, show Int.tmod y t = Int.tmod x t from h2]
  | succ n ih =>
    intro y hy
    obtain ⟨ya, yb, ye⟩ := idx_of ht hy
    constructor
    · rintro (h | ⟨w, h1, h2⟩)
      · obtain ⟨i, j, hij, h1, h2⟩ := (ih y hy).1 h
        exact ⟨i, j, by omega, h1, h2⟩
      · have hw := rch_in gP hx n w h1
        obtain ⟨i, j, hij, k1, k2⟩ := (ih w hw).1 h1
        rw [near_prod false hG kG hw hy] at h2
        unfold prodH at h2
        simp only [Bool.false_and, Bool.or_false, Bool.or_eq_true, Bool.and_eq_true, decide_eq_true_eq] at h2
        rcases h2 with ⟨e, h2⟩ | ⟨h2, e⟩
        · exact ⟨i, j + 1, by omega, e ▸ k1, .inr ⟨_, k2, h2⟩⟩
        · exact ⟨i + 1, j, by omega, .inr ⟨_, k1, h2⟩, e ▸ k2⟩
    · rintro ⟨i, j, hij, h1, h2⟩
      obtain ⟨p1, p2, p3⟩ := idx_facts ya xb
      have a1 := fst i _ h1
      have a2 := snd _ p1 j (Int.tmod y t) (by rw [p3]; exact h2)
      rw [p2, ← ye] at a2
      exact rch_more hij (rch_sum a1 j y a2)
/-- In the strong product both go at once. -/
theorem rch_strong {s t : Int} {l m : List S71} (hG : Gr.Good s l) (kG : Gr.Good t m) (ht : 0 < t) (h8 : s * t ≤ 8) {x : Int} (hx : 0 ≤ x ∧ x < s * t) : ∀ (n : Nat) (y : Int), (0 ≤ y ∧ y < s * t) → (Rch (pairs (prodH true l m t) (s * t)) x n y ↔ Rch l (Int.tdiv x t) n (Int.tdiv y t) ∧ Rch m (Int.tmod x t) n (Int.tmod y t)) := by
  have gP := good_prod (b := true) (l := l) (m := m) (by omega : 0 ≤ s * t) h8
  obtain ⟨xa, xb, xe⟩ := idx_of ht hx
  intro n
  induction n with
  | zero =>
    intro y hy
    obtain ⟨ya, yb, ye⟩ := idx_of ht hy
    constructor
    · intro h
      rw [show y = x from h]
      exact ⟨rfl, rfl⟩
    · rintro ⟨h1, h2⟩
      show y = x
      rw [ye, xe, show Int.tdiv y t = Int.tdiv x t from h1, show Int.tmod y t = Int.tmod x t from h2]
  | succ n ih =>
    intro y hy
    obtain ⟨ya, yb, ye⟩ := idx_of ht hy
    constructor
    · rintro (h | ⟨w, h1, h2⟩)
      · obtain ⟨h1, h2⟩ := (ih y hy).1 h
        exact ⟨.inl h1, .inl h2⟩
      · have hw := rch_in gP hx n w h1
        obtain ⟨k1, k2⟩ := (ih w hw).1 h1
        rw [near_prod true hG kG hw hy] at h2
        unfold prodH at h2
        simp only [Bool.true_and, Bool.or_eq_true, Bool.and_eq_true, decide_eq_true_eq] at h2
        rcases h2 with (⟨e, h2⟩ | ⟨h2, e⟩) | ⟨h2, h3⟩
        · exact ⟨.inl (e ▸ k1), .inr ⟨_, k2, h2⟩⟩
        · exact ⟨.inr ⟨_, k1, h2⟩, .inl (e ▸ k2)⟩
        · exact ⟨.inr ⟨_, k1, h2⟩, .inr ⟨_, k2, h3⟩⟩
    · rintro ⟨h1, h2⟩
      have go : ∀ a c : Int, (0 ≤ a ∧ a < s) → (0 ≤ c ∧ c < t) → Rch l (Int.tdiv x t) n a → Rch m (Int.tmod x t) n c → ((a = Int.tdiv y t ∧ c = Int.tmod y t) ∨ prodH true l m t (a * t + c) y = true) → Rch (pairs (prodH true l m t) (s * t)) x (n + 1) y := by
        intro a c ha hc k1 k2 h
        obtain ⟨p1, p2, p3⟩ := idx_facts ha hc
        have hp := (ih _ p1).2 ⟨by rw [p2]; exact k1, by rw [p3]; exact k2⟩
        rcases h with ⟨e1, e2⟩ | h
        · rw [e1, e2, ← ye] at hp
          exact .inl hp
        · exact .inr ⟨_, hp, by rw [near_prod true hG kG p1 hy]; exact h⟩
      rcases h1 with h1 | ⟨a, h1, n1⟩
      · rcases h2 with h2 | ⟨c, h2, n2⟩
        · exact go _ _ ya yb h1 h2 (.inl ⟨rfl, rfl⟩)
        · have hc := (near_in kG n2).1
          obtain ⟨_, p2, p3⟩ := idx_facts (s := s) ya hc
          refine go _ _ ya hc h1 h2 (.inr ?_)
          unfold prodH
          rw [p2, p3, n2]
          simp
      · have ha := (near_in hG n1).1
        rcases h2 with h2 | ⟨c, h2, n2⟩
        · obtain ⟨_, p2, p3⟩ := idx_facts ha yb
          refine go _ _ ha yb h1 h2 (.inr ?_)
          unfold prodH
          rw [p2, p3, n1]
          simp
        · have hc := (near_in kG n2).1
          obtain ⟨_, p2, p3⟩ := idx_facts ha hc
          refine go _ _ ha hc h1 h2 (.inr ?_)
          unfold prodH
          rw [p2, p3, n1, n2]
          simp
/-- The tables' numbers: the flat product's is the sum. -/
theorem dst_flat {s t : Int} {l m : List S71} (hG : Gr.Good s l) (kG : Gr.Good t m) (ht : 0 < t) (h8 : s * t ≤ 8) {A B T : List (List Int)} (hA : TabX s l A) (hB : TabX t m B) (hT : TabX (s * t) (pairs (prodH false l m t) (s * t)) T) {x y : Int} (hx : 0 ≤ x ∧ x < s * t) (hy : 0 ≤ y ∧ y < s * t) :
    rd (T.getD x.toNat []) y = (if rd (A.getD (Int.tdiv x t).toNat []) (Int.tdiv y t) < 0 ∨ rd (B.getD (Int.tmod x t).toNat []) (Int.tmod y t) < 0 then -1 else rd (A.getD (Int.tdiv x t).toNat []) (Int.tdiv y t) + rd (B.getD (Int.tmod x t).toNat []) (Int.tmod y t)) := by
  have gP := good_prod (b := false) (l := l) (m := m) (by omega : 0 ≤ s * t) h8
  obtain ⟨xa, xb, xe⟩ := idx_of ht hx
  obtain ⟨ya, yb, ye⟩ := idx_of ht hy
  have bd := ((hT.2 x hx.1 hx.2).2 y hy.1 hy.2).1
  have key := rch_flat hG kG ht h8 hx
  have low : 0 ≤ rd (T.getD x.toNat []) y → 0 ≤ rd (A.getD (Int.tdiv x t).toNat []) (Int.tdiv y t) ∧ 0 ≤ rd (B.getD (Int.tmod x t).toNat []) (Int.tmod y t) ∧ rd (A.getD (Int.tdiv x t).toNat []) (Int.tdiv y t) + rd (B.getD (Int.tmod x t).toNat []) (Int.tmod y t) ≤ rd (T.getD x.toNat []) y := fun h => by
    have h1 := (dst_iff gP hT hx hy (rd (T.getD x.toNat []) y).toNat).1 ⟨h, by omega⟩
    obtain ⟨i, j, hij, k1, k2⟩ := (key _ y hy).1 h1
    have a1 := (dst_iff hG hA xa ya i).2 k1
    have a2 := (dst_iff kG hB xb yb j).2 k2
    omega
  have up : 0 ≤ rd (A.getD (Int.tdiv x t).toNat []) (Int.tdiv y t) → 0 ≤ rd (B.getD (Int.tmod x t).toNat []) (Int.tmod y t) → 0 ≤ rd (T.getD x.toNat []) y ∧ rd (T.getD x.toNat []) y ≤ rd (A.getD (Int.tdiv x t).toNat []) (Int.tdiv y t) + rd (B.getD (Int.tmod x t).toNat []) (Int.tmod y t) := fun h1 h2 => by
    have a1 := (dst_iff hG hA xa ya (rd (A.getD (Int.tdiv x t).toNat []) (Int.tdiv y t)).toNat).1 ⟨h1, by omega⟩
    have a2 := (dst_iff kG hB xb yb (rd (B.getD (Int.tmod x t).toNat []) (Int.tmod y t)).toNat).1 ⟨h2, by omega⟩
    have := (dst_iff gP hT hx hy _).2 ((key _ y hy).2 ⟨_, _, Nat.le_refl _, a1, a2⟩)
    omega
  split
  · omega
  · omega
/-- The strong product's is the greater one. -/
theorem dst_strong {s t : Int} {l m : List S71} (hG : Gr.Good s l) (kG : Gr.Good t m) (ht : 0 < t) (h8 : s * t ≤ 8) {A B T : List (List Int)} (hA : TabX s l A) (hB : TabX t m B) (hT : TabX (s * t) (pairs (prodH true l m t) (s * t)) T) {x y : Int} (hx : 0 ≤ x ∧ x < s * t) (hy : 0 ≤ y ∧ y < s * t) :
    rd (T.getD x.toNat []) y = (if rd (A.getD (Int.tdiv x t).toNat []) (Int.tdiv y t) < 0 ∨ rd (B.getD (Int.tmod x t).toNat []) (Int.tmod y t) < 0 then -1 else if rd (B.getD (Int.tmod x t).toNat []) (Int.tmod y t) > rd (A.getD (Int.tdiv x t).toNat []) (Int.tdiv y t) then rd (B.getD (Int.tmod x t).toNat []) (Int.tmod y t) else rd (A.getD (Int.tdiv x t).toNat []) (Int.tdiv y t)) := by
  have gP := good_prod (b := true) (l := l) (m := m) (by omega : 0 ≤ s * t) h8
  obtain ⟨xa, xb, xe⟩ := idx_of ht hx
  obtain ⟨ya, yb, ye⟩ := idx_of ht hy
  have bd := ((hT.2 x hx.1 hx.2).2 y hy.1 hy.2).1
  have key := rch_strong hG kG ht h8 hx
  have low : 0 ≤ rd (T.getD x.toNat []) y → 0 ≤ rd (A.getD (Int.tdiv x t).toNat []) (Int.tdiv y t) ∧ 0 ≤ rd (B.getD (Int.tmod x t).toNat []) (Int.tmod y t) ∧ rd (A.getD (Int.tdiv x t).toNat []) (Int.tdiv y t) ≤ rd (T.getD x.toNat []) y ∧ rd (B.getD (Int.tmod x t).toNat []) (Int.tmod y t) ≤ rd (T.getD x.toNat []) y := fun h => by
    have h1 := (dst_iff gP hT hx hy (rd (T.getD x.toNat []) y).toNat).1 ⟨h, by omega⟩
    obtain ⟨k1, k2⟩ := (key _ y hy).1 h1
    have a1 := (dst_iff hG hA xa ya _).2 k1
    have a2 := (dst_iff kG hB xb yb _).2 k2
    omega
  have up : ∀ n : Nat, 0 ≤ rd (A.getD (Int.tdiv x t).toNat []) (Int.tdiv y t) → 0 ≤ rd (B.getD (Int.tmod x t).toNat []) (Int.tmod y t) → rd (A.getD (Int.tdiv x t).toNat []) (Int.tdiv y t) ≤ n → rd (B.getD (Int.tmod x t).toNat []) (Int.tmod y t) ≤ n → 0 ≤ rd (T.getD x.toNat []) y ∧ rd (T.getD x.toNat []) y ≤ n := fun n h1 h2 h3 h4 => by
    have a1 := (dst_iff hG hA xa ya n).1 ⟨h1, h3⟩
    have a2 := (dst_iff kG hB xb yb n).1 ⟨h2, h4⟩
    exact (dst_iff gP hT hx hy n).2 ((key _ y hy).2 ⟨a1, a2⟩)
  split
  · omega
  · split
    · have := up (rd (B.getD (Int.tmod x t).toNat []) (Int.tmod y t)).toNat (by omega) (by omega) (by omega) (by omega)
      omega
    · have := up (rd (A.getD (Int.tdiv x t).toNat []) (Int.tdiv y t)).toNat (by omega) (by omega) (by omega) (by omega)
      omega
end Go.Proofs.Ytcjddikalgnhpaa.Gr
namespace Go.Proofs.Ytcjddikalgnhpaa.Gr
open Go.RowKit Go.Proofs.Ytcjddikalgnhpaa.P Go.Proofs.YtcjddikalgnhpaaW.PrintWords Go.Proofs.YtcjddikalgnhpaaW.PrintLast
theorem good_yes (s : Int) (l : List S71) (hl : l.length ≤ 1048576) (hG : Good s l) (hO : Sorted l) : Ev (fun k => spec_l2Good.f k s l) true ∧ Ev (fun k => impl_IsGraph.f k s l) true := by
  have h0 := hG.1
  have h8 := hG.2.1
  have hw2 : wrap64 (s - 1) = s - 1 := w64 _ (by omega) (by omega)
  constructor
  · refine Cm.ev ?_
    unfold spec_l2Good.f
    refine Cm.up (fun k i (_ : Unit) => spec_l2Good.l0 k i s l) l.length (fun i _ => 0 ≤ i) _ ?_ 0 () (by omega) (by omega)
    rintro i - hi i0 ih
    by_cases h : i < (l.length : Int)
    · have hb := hG.2.2 i i0 h
      have hw : wrap64 (i + 1) = i + 1 := w64 _ (by omega) (by omega)
      have hw1 : wrap64 (i - 1) = i - 1 := w64 _ (by omega) (by omega)
      refine Cm.step (f := fun k => spec_l2Good.l0 k (i + 1) s l) (fun k => ?_) (ih () h (by omega))
      simp only [spec_l2Good.l0, l1In_eq, before_eq, hw, hw1, hw2, if_pos h, if_pos i0, Option.bind_some, decide_eq_true_eq]
      rw [if_pos ⟨hb.1, by omega⟩, if_pos ⟨by omega, by omega⟩, if_neg (by omega)]
      by_cases c4 : i > 0
      · rw [if_pos c4, if_pos (by omega), if_pos (by omega), if_pos (hO i c4 h)]
      · rw [if_neg c4]
    · refine Cm.step (f := fun _ => some true) (fun k => ?_) (Cm.now rfl)
      simp only [spec_l2Good.l0]
      rw [if_neg h, l1In_eq, Option.bind_some, decide_eq_true ⟨h0, h8⟩]
  · refine Cm.ev ?_
    unfold impl_IsGraph.f
    refine Cm.pos ⟨h0, h8⟩ (Cm.up (fun k i (_ : Unit) => impl_IsGraph.l0 k l s i) l.length (fun i _ => 0 ≤ i) _ ?_ 0 () (by omega) (by omega))
    rintro i - hi i0 ih
    by_cases h : i < (l.length : Int)
    · have hb := hG.2.2 i i0 h
      have hw : wrap64 (i + 1) = i + 1 := w64 _ (by omega) (by omega)
      have hw1 : wrap64 (i - 1) = i - 1 := w64 _ (by omega) (by omega)
      refine Cm.step (f := fun k => impl_IsGraph.l0 k l s (i + 1)) (fun k => ?_) (ih () h (by omega))
      simp only [impl_IsGraph.l0, hw, hw1, pcmp_iff, if_pos h, if_pos i0]
      rw [if_neg (by omega), if_neg (by omega), if_neg (by omega)]
      by_cases c4 : i > 0
      · rw [if_pos c4, if_neg (fun h2 => h2 (hO i c4 h))]
      · rw [if_neg c4]
    · refine Cm.step (f := fun _ => some true) (fun k => ?_) (Cm.now rfl)
      simp only [impl_IsGraph.l0]
      rw [if_neg h]
end Go.Proofs.Ytcjddikalgnhpaa.Gr
namespace Go.Proofs.Ytcjddikalgnhpaa.Gr
open Go.RowKit Go.Proofs.Ytcjddikalgnhpaa.P Go.Proofs.YtcjddikalgnhpaaW.PrintWords Go.Proofs.YtcjddikalgnhpaaW.PrintLast Go.Proofs.YtcjddikalgnhpaaW.PrintMore
theorem cloC (s t : Int) (l m : List S71) (hg : Gr.Good s l) (hg2 : Gr.Good t m) (v w : List Int) (hv : Masks s v) (hvb : ∀ x y : Int, 0 ≤ x → x < s → 0 ≤ y → y < 8 → bit (rd v x) y = near l x y) (hw : Masks t w) (hwb : ∀ x y : Int, 0 ≤ x → x < t → 0 ≤ y → y < 8 → bit (rd w x) y = near m x y) (x y : Int) (x0 : 0 ≤ x) (xy : x < y) (yn : y < s * t) : impl_graphBy_productC.c t 0 v w x y = some (prodH false l m t x y) := by
  have h := hg.1
  have h' := hg.2.1
  have k := hg2.1
  have k' := hg2.2.1
  have ht : 0 < t := by
    rcases Int.lt_or_eq_of_le k with c | c
    · exact c
    · rw [← c, Int.mul_zero] at yn
      omega
  obtain ⟨a0, a1, a2, a3, a4⟩ := div_facts (s := s) ht x0 (show x < s * t by omega)
  obtain ⟨b0, b1, b2, b3, b4⟩ := div_facts (s := s) ht (show 0 ≤ y by omega) yn
  have hne : Int.tdiv x t = Int.tdiv y t → ¬ Int.tmod x t = Int.tmod y t := fun e1 e2 => by
    rw [e1, e2] at a4
    omega
  unfold impl_graphBy_productC.c impl_productOf_1C.f
  rw [if_neg (show ¬ t = 0 by omega), w64 (Int.tdiv x t) (by omega) (by omega), w64 (Int.tdiv y t) (by omega) (by omega), has_near hg hv hvb _ _ a0 a1 b0 b1, Option.bind_some, has_near hg2 hw hwb _ _ a2 a3 b2 b3, Option.bind_some]
  unfold prodH impl_CartesianProduct_1.f
  by_cases e1 : Int.tdiv x t = Int.tdiv y t
  · have e2 := hne e1
    rw [e1]
    cases near l (Int.tdiv y t) (Int.tdiv y t) <;> cases near m (Int.tmod x t) (Int.tmod y t) <;> simp [e2]
  · by_cases e2 : Int.tmod x t = Int.tmod y t
    · rw [e2]
      cases near l (Int.tdiv x t) (Int.tdiv y t) <;> cases near m (Int.tmod y t) (Int.tmod y t) <;> simp [e1]
    · cases near l (Int.tdiv x t) (Int.tdiv y t) <;> cases near m (Int.tmod x t) (Int.tmod y t) <;> simp [e1, e2]
theorem prodC_ex (s : Int) (l : List S71) (t : Int) (m : List S71) (hl : l.length ≤ 1048576) (hm : m.length ≤ 1048576) (b0 : Bool) (hb : b0 = true → Gr.Good s l ∧ Sorted l) (hS : Ev (fun k => spec_l2Good.f k s l) b0) (hI : Ev (fun k => impl_IsGraph.f k s l) b0) (c0 : Bool) (hc : c0 = true → Gr.Good t m ∧ Sorted m) (kS : Ev (fun k => spec_l2Good.f k t m) c0) (kI : Ev (fun k => impl_IsGraph.f k t m) c0) : ∃ n es b, es.length ≤ 1048576 ∧ Ev (fun k => spec_CartesianProduct.f k s l t m) (n, es, b) ∧ Ev (fun k => impl_CartesianProduct.f k s l t m) (n, es, b) ∧ b = (b0 && (c0 && decide (s * t ≤ 8))) ∧ (b = true → n = s * t ∧ es = pairs (prodH false l m t) (s * t)) := by
  have sJ : Cm (fun k => spec_l2Product.j0 k false true s l t m) (fun z => z = ((0 : Int), ([] : List S71), false)) := Cm.step (fun k => by simp only [spec_l2Product.j0, if_true]; try rfl) (Cm.now rfl)
  have iJ : Cm (fun k => impl_productOfX.j0 impl_graphBy_productC.f k true s l t m 0) (fun z => z = ((0 : Int), ([] : List S71), false)) := Cm.step (fun k => by simp only [impl_productOfX.j0, if_true]; try rfl) (Cm.now rfl)
  have hS2 : ∀ {z : Int × List S71 × Bool}, Cm (fun k => spec_l2Product.f k s l t m false) (fun x => x = z) → Ev (fun k => spec_CartesianProduct.f k s l t m) z := fun h => Cm.ev (Cm.bindE h.ev (Cm.now rfl))
  have hI2 : ∀ {z : Int × List S71 × Bool}, Cm (fun k => impl_productOfX.f impl_graphBy_productC.f k s l t m 0) (fun x => x = z) → Ev (fun k => impl_CartesianProduct.f k s l t m) z := fun h => Cm.ev (Cm.bindE (f := fun k => impl_productC.f k s l t m) h.ev (Cm.now rfl))
  cases b0 with
  | false => exact ⟨0, [], false, by simp, hS2 (Cm.bindE hS (Cm.neg (by decide) sJ)), hI2 (Cm.bindE hI (Cm.neg (by decide) iJ)), rfl, fun h => Bool.noConfusion h⟩
  | true =>
    cases c0 with
    | false => exact ⟨0, [], false, by simp, hS2 (Cm.bindE hS (Cm.pos rfl (Cm.bindE kS (Cm.neg (by decide) sJ)))), hI2 (Cm.bindE hI (Cm.pos rfl (Cm.bindE kI (Cm.neg (by decide) iJ)))), rfl, fun h => Bool.noConfusion h⟩
    | true =>
      obtain ⟨hG, hO⟩ := hb rfl
      obtain ⟨kG, kO⟩ := hc rfl
      obtain ⟨f0, f1, f2⟩ := size_facts hG.1 hG.2.1 kG.1 kG.2.1
      by_cases hbig : s * t > 8
      · refine ⟨0, [], false, by simp, hS2 (Cm.bindE hS (Cm.pos rfl (Cm.bindE kS (Cm.pos rfl ?_)))), hI2 (Cm.bindE hI (Cm.pos rfl (Cm.bindE kI (Cm.pos rfl ?_)))), by rw [decide_eq_false (by omega)]; rfl, fun h => Bool.noConfusion h⟩
        · rw [f2, decide_eq_true hbig]
          exact sJ
        · rw [f2, decide_eq_true hbig]
          exact iJ
      · obtain ⟨v, hv, hvb, hvN⟩ := net_ev s l hl hG
        obtain ⟨w, hw, hwb, hwN⟩ := net_ev t m hm kG
        have hcl := cloC s t l m hG kG v w hv hvb hw hwb
        have hok : okBy (impl_graphBy_productC.c t 0 v w) (s * t) = true := okBy_all _ _ (fun x y h0 h1 h2 => by rw [hcl x y h0 h1 h2]; rfl)
        have hp : pairs (fun x y => (impl_graphBy_productC.c t 0 v w x y).getD false) (s * t) = pairs (prodH false l m t) (s * t) := pairs_congr _ _ _ (fun x y h0 h1 h2 => by rw [hcl x y h0 h1 h2]; rfl)
        refine ⟨s * t, pairs (prodH false l m t) (s * t), true, by have := pairs_len (prodH false l m t) (s * t) (by omega); omega, hS2 (Cm.bindE hS (Cm.pos rfl (Cm.bindE kS (Cm.pos rfl ?_)))), hI2 (Cm.bindE hI (Cm.pos rfl (Cm.bindE kI (Cm.pos rfl ?_)))), by rw [decide_eq_true (by omega)]; rfl, fun _ => ⟨rfl, rfl⟩⟩
        · rw [f2, decide_eq_false hbig]
          refine Cm.step (fun k => by simp only [spec_l2Product.j0, Bool.false_eq_true, if_false, f2]; try rfl) ?_
          exact prod_all false s t l m hl hm hG kG (s * t) rfl (by omega) (s * t).toNat 0 [] (by omega) (by omega) (by simp)
        · rw [f2, decide_eq_false hbig]
          refine Cm.step (fun k => by simp only [impl_productOfX.j0, Bool.false_eq_true, if_false, f2]; try rfl) ?_
          refine Cm.bindE hvN (Cm.bindE hwN (Cm.bindE (x := (s * t, pairs (prodH false l m t) (s * t))) ?_ (Cm.now rfl)))
          obtain ⟨N, hN⟩ := by_ev (fun x y => (impl_graphBy_productC.c t 0 v w x y).getD false) (s * t) f0 (by omega)
          dsimp only at hN
          refine ⟨N, fun k hk => ?_⟩
          dsimp only
          unfold impl_graphBy_productC.f
          rw [if_pos ⟨⟨f0, by omega⟩, hok⟩, hN k hk, hp]
          rfl
theorem cloS (s t : Int) (l m : List S71) (hg : Gr.Good s l) (hg2 : Gr.Good t m) (v w : List Int) (hv : Masks s v) (hvb : ∀ x y : Int, 0 ≤ x → x < s → 0 ≤ y → y < 8 → bit (rd v x) y = near l x y) (hw : Masks t w) (hwb : ∀ x y : Int, 0 ≤ x → x < t → 0 ≤ y → y < 8 → bit (rd w x) y = near m x y) (x y : Int) (x0 : 0 ≤ x) (xy : x < y) (yn : y < s * t) : impl_graphBy_productS.c t 0 v w x y = some (prodH true l m t x y) := by
  have h := hg.1
  have h' := hg.2.1
  have k := hg2.1
  have k' := hg2.2.1
  have ht : 0 < t := by
    rcases Int.lt_or_eq_of_le k with c | c
    · exact c
    · rw [← c, Int.mul_zero] at yn
      omega
  obtain ⟨a0, a1, a2, a3, a4⟩ := div_facts (s := s) ht x0 (show x < s * t by omega)
  obtain ⟨b0, b1, b2, b3, b4⟩ := div_facts (s := s) ht (show 0 ≤ y by omega) yn
  have hne : Int.tdiv x t = Int.tdiv y t → ¬ Int.tmod x t = Int.tmod y t := fun e1 e2 => by
    rw [e1, e2] at a4
    omega
  unfold impl_graphBy_productS.c impl_productOf_1S.f
  rw [if_neg (show ¬ t = 0 by omega), w64 (Int.tdiv x t) (by omega) (by omega), w64 (Int.tdiv y t) (by omega) (by omega), has_near hg hv hvb _ _ a0 a1 b0 b1, Option.bind_some, has_near hg2 hw hwb _ _ a2 a3 b2 b3, Option.bind_some]
  unfold prodH impl_StrongProduct_1.f
  by_cases e1 : Int.tdiv x t = Int.tdiv y t
  · have e2 := hne e1
    rw [e1]
    cases near l (Int.tdiv y t) (Int.tdiv y t) <;> cases near m (Int.tmod x t) (Int.tmod y t) <;> simp [e2]
  · by_cases e2 : Int.tmod x t = Int.tmod y t
    · rw [e2]
      cases near l (Int.tdiv x t) (Int.tdiv y t) <;> cases near m (Int.tmod y t) (Int.tmod y t) <;> simp [e1]
    · cases near l (Int.tdiv x t) (Int.tdiv y t) <;> cases near m (Int.tmod x t) (Int.tmod y t) <;> simp [e1, e2]
theorem prodS_ex (s : Int) (l : List S71) (t : Int) (m : List S71) (hl : l.length ≤ 1048576) (hm : m.length ≤ 1048576) (b0 : Bool) (hb : b0 = true → Gr.Good s l ∧ Sorted l) (hS : Ev (fun k => spec_l2Good.f k s l) b0) (hI : Ev (fun k => impl_IsGraph.f k s l) b0) (c0 : Bool) (hc : c0 = true → Gr.Good t m ∧ Sorted m) (kS : Ev (fun k => spec_l2Good.f k t m) c0) (kI : Ev (fun k => impl_IsGraph.f k t m) c0) : ∃ n es b, es.length ≤ 1048576 ∧ Ev (fun k => spec_StrongProduct.f k s l t m) (n, es, b) ∧ Ev (fun k => impl_StrongProduct.f k s l t m) (n, es, b) ∧ b = (b0 && (c0 && decide (s * t ≤ 8))) ∧ (b = true → n = s * t ∧ es = pairs (prodH true l m t) (s * t)) := by
  have sJ : Cm (fun k => spec_l2Product.j0 k true true s l t m) (fun z => z = ((0 : Int), ([] : List S71), false)) := Cm.step (fun k => by simp only [spec_l2Product.j0, if_true]; try rfl) (Cm.now rfl)
  have iJ : Cm (fun k => impl_productOfX.j0 impl_graphBy_productS.f k true s l t m 0) (fun z => z = ((0 : Int), ([] : List S71), false)) := Cm.step (fun k => by simp only [impl_productOfX.j0, if_true]; try rfl) (Cm.now rfl)
  have hS2 : ∀ {z : Int × List S71 × Bool}, Cm (fun k => spec_l2Product.f k s l t m true) (fun x => x = z) → Ev (fun k => spec_StrongProduct.f k s l t m) z := fun h => Cm.ev (Cm.bindE h.ev (Cm.now rfl))
  have hI2 : ∀ {z : Int × List S71 × Bool}, Cm (fun k => impl_productOfX.f impl_graphBy_productS.f k s l t m 0) (fun x => x = z) → Ev (fun k => impl_StrongProduct.f k s l t m) z := fun h => Cm.ev (Cm.bindE (f := fun k => impl_productS.f k s l t m) h.ev (Cm.now rfl))
  cases b0 with
  | false => exact ⟨0, [], false, by simp, hS2 (Cm.bindE hS (Cm.neg (by decide) sJ)), hI2 (Cm.bindE hI (Cm.neg (by decide) iJ)), rfl, fun h => Bool.noConfusion h⟩
  | true =>
    cases c0 with
    | false => exact ⟨0, [], false, by simp, hS2 (Cm.bindE hS (Cm.pos rfl (Cm.bindE kS (Cm.neg (by decide) sJ)))), hI2 (Cm.bindE hI (Cm.pos rfl (Cm.bindE kI (Cm.neg (by decide) iJ)))), rfl, fun h => Bool.noConfusion h⟩
    | true =>
      obtain ⟨hG, hO⟩ := hb rfl
      obtain ⟨kG, kO⟩ := hc rfl
      obtain ⟨f0, f1, f2⟩ := size_facts hG.1 hG.2.1 kG.1 kG.2.1
      by_cases hbig : s * t > 8
      · refine ⟨0, [], false, by simp, hS2 (Cm.bindE hS (Cm.pos rfl (Cm.bindE kS (Cm.pos rfl ?_)))), hI2 (Cm.bindE hI (Cm.pos rfl (Cm.bindE kI (Cm.pos rfl ?_)))), by rw [decide_eq_false (by omega)]; rfl, fun h => Bool.noConfusion h⟩
        · rw [f2, decide_eq_true hbig]
          exact sJ
        · rw [f2, decide_eq_true hbig]
          exact iJ
      · obtain ⟨v, hv, hvb, hvN⟩ := net_ev s l hl hG
        obtain ⟨w, hw, hwb, hwN⟩ := net_ev t m hm kG
        have hcl := cloS s t l m hG kG v w hv hvb hw hwb
        have hok : okBy (impl_graphBy_productS.c t 0 v w) (s * t) = true := okBy_all _ _ (fun x y h0 h1 h2 => by rw [hcl x y h0 h1 h2]; rfl)
        have hp : pairs (fun x y => (impl_graphBy_productS.c t 0 v w x y).getD false) (s * t) = pairs (prodH true l m t) (s * t) := pairs_congr _ _ _ (fun x y h0 h1 h2 => by rw [hcl x y h0 h1 h2]; rfl)
        refine ⟨s * t, pairs (prodH true l m t) (s * t), true, by have := pairs_len (prodH true l m t) (s * t) (by omega); omega, hS2 (Cm.bindE hS (Cm.pos rfl (Cm.bindE kS (Cm.pos rfl ?_)))), hI2 (Cm.bindE hI (Cm.pos rfl (Cm.bindE kI (Cm.pos rfl ?_)))), by rw [decide_eq_true (by omega)]; rfl, fun _ => ⟨rfl, rfl⟩⟩
        · rw [f2, decide_eq_false hbig]
          refine Cm.step (fun k => by simp only [spec_l2Product.j0, Bool.false_eq_true, if_false, f2]; try rfl) ?_
          exact prod_all true s t l m hl hm hG kG (s * t) rfl (by omega) (s * t).toNat 0 [] (by omega) (by omega) (by simp)
        · rw [f2, decide_eq_false hbig]
          refine Cm.step (fun k => by simp only [impl_productOfX.j0, Bool.false_eq_true, if_false, f2]; try rfl) ?_
          refine Cm.bindE hvN (Cm.bindE hwN (Cm.bindE (x := (s * t, pairs (prodH true l m t) (s * t))) ?_ (Cm.now rfl)))
          obtain ⟨N, hN⟩ := by_ev (fun x y => (impl_graphBy_productS.c t 0 v w x y).getD false) (s * t) f0 (by omega)
          dsimp only at hN
          refine ⟨N, fun k hk => ?_⟩
          dsimp only
          unfold impl_graphBy_productS.f
          rw [if_pos ⟨⟨f0, by omega⟩, hok⟩, hN k hk, hp]
          rfl
/-- Not near. -/
def far (l : List S71) (x y : Int) : Bool := !near l x y
set_option maxRecDepth 10000 in
theorem comp_row (s : Int) (l : List S71) (hl : l.length ≤ 1048576) (x : Int) (rest : List S71) (hn : s ≤ 1000) (hx0 : 0 ≤ x)
    (hnx : ∀ es : List S71, (es.length : Int) ≤ (x + 1) * 1000 → Ev (fun k => spec_ComplementOf.l0 k (x + 1) s l s es) (s, es ++ rest, true)) :
    ∀ (d : Nat) (y : Int) (es : List S71), x < y → s - y = d → (es.length : Int) ≤ x * 1000 + y → Ev (fun k => spec_ComplementOf.l1 k x y s l s es) (s, es ++ (rowF (far l) x d y ++ rest), true) := by
  intro d
  induction d with
  | zero =>
    intro y es hxy hd hes
    have hw : wrap64 (x + 1) = x + 1 := by unfold wrap64; omega
    refine Ev.step (fun k => ?_) (hnx es (by omega))
    simp only [spec_ComplementOf.l1]
    rw [if_neg (by omega), hw]
  | succ d ih =>
    intro y es hxy hd hes
    have hw : wrap64 (y + 1) = y + 1 := by unfold wrap64; omega
    have hne := near_ev s l x y hl
    by_cases hc : near l x y = true
    · have hr := ih (y + 1) es (by omega) (by omega) (by omega)
      have hf : far l x y = false := by unfold far; rw [hc]; rfl
      have e : es ++ (rowF (far l) x (d + 1) y ++ rest) = es ++ (rowF (far l) x d (y + 1) ++ rest) := by
        conv => lhs; unfold rowF
        rw [hf]
        simp
      rw [e]
      refine Ev.step (f := fun k => (spec_l2Near.f k s l x y).bind fun t => if t = true then spec_ComplementOf.l1 k x (y + 1) s l s es else if es.length < 8796093022208 then spec_ComplementOf.l1 k x (y + 1) s l s (es ++ [⟨x, y⟩]) else none) (fun k => ?_) (Ev.bind hne ?_)
      · simp only [spec_ComplementOf.l1]
        rw [if_pos (by omega), hw]
      · refine Ev.congr (fun k => ?_) hr
        rw [if_pos hc]
    · have hr := ih (y + 1) (es ++ [⟨x, y⟩]) (by omega) (by omega) (by rw [List.length_append, List.length_singleton]; omega)
      have hf : far l x y = true := by unfold far; rw [Bool.eq_false_iff.2 hc]; rfl
      have e : es ++ (rowF (far l) x (d + 1) y ++ rest) = es ++ [⟨x, y⟩] ++ (rowF (far l) x d (y + 1) ++ rest) := by
        conv => lhs; unfold rowF
        rw [hf]
        simp
      rw [e]
      refine Ev.step (f := fun k => (spec_l2Near.f k s l x y).bind fun t => if t = true then spec_ComplementOf.l1 k x (y + 1) s l s es else if es.length < 8796093022208 then spec_ComplementOf.l1 k x (y + 1) s l s (es ++ [⟨x, y⟩]) else none) (fun k => ?_) (Ev.bind hne ?_)
      · simp only [spec_ComplementOf.l1]
        rw [if_pos (by omega), hw]
      · refine Ev.congr (fun k => ?_) hr
        rw [if_neg hc, if_pos (by omega)]
set_option maxRecDepth 10000 in
theorem comp_all (s : Int) (l : List S71) (hl : l.length ≤ 1048576) (hn : s ≤ 1000) : ∀ (d : Nat) (x : Int) (es : List S71), 0 ≤ x → s - x = d → (es.length : Int) ≤ x * 1000 → Ev (fun k => spec_ComplementOf.l0 k x s l s es) (s, es ++ allF (far l) d x, true) := by
  intro d
  induction d with
  | zero =>
    intro x es hx hd hes
    rw [show allF (far l) 0 x = [] from rfl, List.append_nil]
    refine Ev.step (f := fun _ => some (s, es, true)) (fun k => ?_) (Ev.now _)
    simp only [spec_ComplementOf.l0]
    rw [if_neg (by omega)]
  | succ d ih =>
    intro x es hx hd hes
    have hw : wrap64 (x + 1) = x + 1 := by unfold wrap64; omega
    have hr := comp_row s l hl x (allF (far l) d (x + 1)) hn hx (fun es' he => ih (x + 1) es' (by omega) (by omega) he) d (x + 1) es (by omega) (by omega) (by omega)
    rw [show allF (far l) (d + 1) x = rowF (far l) x d (x + 1) ++ allF (far l) d (x + 1) from rfl]
    refine Ev.step (fun k => ?_) hr
    simp only [spec_ComplementOf.l0]
    rw [if_pos (by omega), hw]
/-- Both answer alike. -/
theorem comp_ex (s : Int) (l : List S71) (hl : l.length ≤ 1048576) (b : Bool) (hgO : b = true → Gr.Good s l ∧ Sorted l) (hS : Ev (fun k => spec_l2Good.f k s l) b) (hI : Ev (fun k => impl_IsGraph.f k s l) b) : ∃ n es, es.length ≤ 1048576 ∧ Ev (fun k => spec_ComplementOf.f k s l) (n, es, b) ∧ Ev (fun k => impl_ComplementOf.f k s l) (n, es, b) ∧ (b = true → n = s ∧ es = pairs (far l) s) := by
  cases b with
  | false =>
    refine ⟨0, [], by simp, ?_, ?_, fun h => Bool.noConfusion h⟩
    · refine Ev.bind hS (Ev.congr (fun k => ?_) (Ev.now _))
      rfl
    · refine Ev.bind hI (Ev.congr (fun k => ?_) (Ev.now _))
      rfl
  | true =>
    obtain ⟨hG, hO⟩ := hgO rfl
    obtain ⟨m, hm, hb, hN⟩ := net_ev s l hl hG
    have hc : ∀ x y : Int, 0 ≤ x → x < y → y < s → impl_graphBy_ComplementOf.c m x y = some (far l x y) := fun x y h0 h1 h2 => by
      unfold impl_graphBy_ComplementOf.c impl_ComplementOf_1.f
      rw [has_eq s m x y hm h0 (by omega) (by omega), Option.bind_some, hb x y h0 (by omega) (by omega) (by have := hG.2.1; omega)]
      rfl
    have hok : okBy (impl_graphBy_ComplementOf.c m) s = true := okBy_all _ s (fun x y h0 h1 h2 => by rw [hc x y h0 h1 h2]; rfl)
    have hp : pairs (fun x y => (impl_graphBy_ComplementOf.c m x y).getD false) s = pairs (far l) s := pairs_congr _ _ s (fun x y h0 h1 h2 => by rw [hc x y h0 h1 h2]; rfl)
    have h8 := hG.2.1
    have h0 := hG.1
    refine ⟨s, pairs (far l) s, by have := pairs_len (far l) s (by omega); omega, ?_, ?_, fun _ => ⟨rfl, rfl⟩⟩
    · refine Ev.bind hS (Ev.congr (fun k => ?_) (comp_all s l hl (by omega) s.toNat 0 [] (by omega) (by omega) (by simp)))
      rw [if_pos rfl]
    · refine Ev.bind hI (Ev.congr (f := fun k => (impl_netOf.f k s l).bind fun t486 => (impl_graphBy_ComplementOf.f k s t486).bind fun bt490 => some (bt490.1, bt490.2, true)) (fun k => ?_) (Ev.bind hN (Ev.bind (a := (s, pairs (far l) s)) ?_ (Ev.now _))))
      · rw [if_pos rfl]
      · obtain ⟨K, hK⟩ := by_ev (fun x y => (impl_graphBy_ComplementOf.c m x y).getD false) s h0 (by omega)
        dsimp only at hK
        refine ⟨K, fun k hk => ?_⟩
        dsimp only
        unfold impl_graphBy_ComplementOf.f
        rw [if_pos ⟨⟨h0, by omega⟩, hok⟩, hK k hk, hp]
        rfl
/-- All pairs of n nodes are laid by a graph or by its complement. -/
theorem pairs_count (h : Int → Int → Bool) : ∀ (n : Nat), (pairs h n).length + (pairs (fun x y => !h x y) n).length = (pairs (fun _ _ => true) n).length := by
  have row : ∀ (x : Int) (d : Nat) (y : Int), (rowF h x d y).length + (rowF (fun x y => !h x y) x d y).length = (rowF (fun _ _ => true) x d y).length := by
    intro x d
    induction d with
    | zero => intro y; rfl
    | succ d ih =>
      intro y
      unfold rowF
      have := ih (y + 1)
      simp only [List.length_append]
      cases h x y <;> simp <;> omega
  have all : ∀ (d : Nat) (x : Int), (allF h d x).length + (allF (fun x y => !h x y) d x).length = (allF (fun _ _ => true) d x).length := by
    intro d
    induction d with
    | zero => intro x; rfl
    | succ d ih =>
      intro x
      have h1 := ih (x + 1)
      have h2 := row x d (x + 1)
      show (rowF h x d (x + 1) ++ allF h d (x + 1)).length + (rowF (fun x y => !h x y) x d (x + 1) ++ allF (fun x y => !h x y) d (x + 1)).length = (rowF (fun _ _ => true) x d (x + 1) ++ allF (fun _ _ => true) d (x + 1)).length
      simp only [List.length_append]
      omega
  intro n
  exact all _ _
theorem pairs_full : ((List.range 9).all fun n => decide (2 * ((pairs (fun _ _ => true) (n : Int)).length : Int) = (n : Int) * ((n : Int) - 1))) = true := by kernel_rfl
theorem table_ex (s : Int) (l : List S71) (hl : l.length ≤ 1048576) (b : Bool) (hb : b = true → Gr.Good s l ∧ Sorted l) (hS : Ev (fun k => spec_l2Good.f k s l) b) (hI : Ev (fun k => impl_IsGraph.f k s l) b) : ∃ es : List (List Int), es.length ≤ 1024 ∧ (∀ x ∈ es, List.length x ≤ 1024) ∧ Ev (fun k => spec_DistancesOf.f k s l) (es, b) ∧ Ev (fun k => impl_DistancesOf.f k s l) (es, b) ∧ (b = true → TabX s l es) := by
  cases b with
  | false => exact ⟨[], by simp, by simp, Cm.ev (Cm.bindE hS (Cm.neg (by decide) (Cm.now rfl))), Cm.ev (Cm.bindE hI (Cm.neg (by decide) (Cm.now rfl))), fun h => Bool.noConfusion h⟩
  | true =>
    obtain ⟨hG, _⟩ := hb rfl
    have h0 := hG.1
    have h8 := hG.2.1
    obtain ⟨m, hm, hbit, hN⟩ := net_ev s l hl hG
    obtain ⟨t, ⟨ht, hv⟩, e1, e2⟩ := dist_both s l hl hG m ⟨hm, hbit⟩
    refine ⟨t, by omega, ?_, Cm.ev (Cm.bindE hS (Cm.pos rfl (Cm.bindE e1 (Cm.now rfl)))), Cm.ev (Cm.bindE hI (Cm.pos rfl (Cm.bindE hN (Cm.bindE e2 (Cm.now rfl))))), fun _ => ⟨ht, hv⟩⟩
    intro x hx
    obtain ⟨j, hj, rfl⟩ := List.mem_iff_getElem.1 hx
    have k1 := (hv j (by omega) (by omega)).1
    rw [Int.toNat_natCast, List.getD_eq_getElem?_getD, List.getElem?_eq_getElem hj] at k1
    rw [Option.getD_some] at k1
    omega
/-- A code: bytes, not too many. -/
def Code8 (C : List Int) : Prop := C.length ≤ 65536 ∧ ∀ x ∈ C, 0 ≤ x ∧ x ≤ 255
theorem code_of {C : List Int} (hl : C.length ≤ 65536) (h : ∀ x ∈ C, (Lit.int .u8 x).wf = true) : Code8 C := ⟨hl, fun x hx => by
  have h2 := h x hx
  simp only [Lit.wf, Bool.and_eq_true, decide_eq_true_eq] at h2
  exact ⟨h2.1, h2.2⟩⟩
theorem rd8 {C : List Int} (hC : Code8 C) (a : Int) : 0 ≤ rd C a ∧ rd C a ≤ 255 := by
  unfold rd
  rw [List.getD_eq_getElem?_getD]
  cases h : C[a.toNat]? with
  | none => exact ⟨by decide, by decide⟩
  | some x => exact hC.2 x (List.mem_of_getElem? h)
theorem and255 (x : Int) : 0 ≤ Go.bits .and .u64 x 255 ∧ Go.bits .and .u64 x 255 ≤ 255 := by
  have h : (BitVec.ofInt IntKind.u64.bits x &&& BitVec.ofInt IntKind.u64.bits 255).toNat ≤ 255 := by
    rw [BitVec.toNat_and]
    exact Nat.and_le_right
  have hw : ∀ n : Int, IntKind.u64.wrap n = n % 18446744073709551616 := fun n => by simp [IntKind.wrap, IntKind.bits, IntKind.signed]
  rw [show Go.bits .and .u64 x 255 = IntKind.u64.wrap ((BitVec.ofInt IntKind.u64.bits x &&& BitVec.ofInt IntKind.u64.bits 255).toNat : Int) from rfl, hw]
  omega
theorem next_cm {C : List Int} (hC : Code8 C) (a s : Int) (h0 : 0 ≤ a) (h1 : a ≤ 1000000000) : Cm (fun _ => spec_l1Cur_next.f C a s) (fun r => 0 ≤ r.1 ∧ r.1 ≤ 255 ∧ r.2.1 = a + 1) := by
  have hr := rd8 hC a
  have hw : wrap64 (a + 1) = a + 1 := w64 _ (by omega) (by omega)
  unfold spec_l1Cur_next.f
  rw [hw]
  refine Cm.ite (fun _ => Cm.pos h0 (Cm.ite (fun _ => Cm.now ?_) (fun _ => Cm.now ?_))) (fun _ => Cm.ite (fun _ => Cm.now ?_) (fun _ => Cm.now ?_))
  · dsimp only
    rw [w64 _ (by omega) (by omega)]
    exact ⟨hr.1, hr.2, rfl⟩
  · dsimp only
    have hb := and255 ((IntKind.u64.wrap ((IntKind.u64.wrap ((IntKind.u64.wrap (s * 6364136223846793005)) + (IntKind.u64.wrap (wrap64 (rd C a))))) + 462197)) / 1099511627776)
    rw [w64 _ (by omega) (by omega)]
    exact ⟨hb.1, hb.2, rfl⟩
  · exact ⟨by dsimp only; omega, by dsimp only; omega, rfl⟩
  · dsimp only
    have hb := and255 ((IntKind.u64.wrap ((IntKind.u64.wrap (IntKind.u64.wrap (s * 6364136223846793005))) + 462197)) / 1099511627776)
    rw [w64 _ (by omega) (by omega)]
    exact ⟨hb.1, hb.2, rfl⟩
/-- A number that is picked. -/
theorem pick_cm {C : List Int} (hC : Code8 C) (a s n : Int) (h0 : 0 ≤ a) (h1 : a ≤ 100000000) (hn : 1 ≤ n) (hN : n ≤ 100000) : Cm (fun _ => spec_l1Cur_pick.f C a s n) (fun r => 0 ≤ r.1 ∧ r.1 < n ∧ a ≤ r.2.1 ∧ r.2.1 ≤ a + 2) := by
  unfold spec_l1Cur_pick.f
  refine Cm.ite (fun _ => Cm.now ⟨by dsimp only; omega, by dsimp only; omega, by dsimp only; omega, by dsimp only; omega⟩) (fun hc => Cm.bind (next_cm hC a s h0 (by omega)) ?_)
  rintro ⟨x, a1, s1⟩ ⟨x0, x1, x2⟩
  dsimp only at x0 x1 x2 ⊢
  have tm : ∀ y : Int, 0 ≤ y → 0 ≤ Int.tmod y n ∧ Int.tmod y n < n := fun y hy => by
    rw [Int.tmod_eq_emod_of_nonneg hy]
    exact ⟨Int.emod_nonneg _ (by omega), Int.emod_lt_of_pos _ (by omega)⟩
  refine Cm.ite (fun hb => Cm.bind (next_cm hC a1 s1 (by omega) (by omega)) ?_) (fun hb => Cm.neg (by omega) (Cm.now ?_))
  · rintro ⟨y, a2, s2⟩ ⟨y0, y1, y2⟩
    dsimp only at y0 y1 y2 ⊢
    refine Cm.neg (by omega) (Cm.now ?_)
    dsimp only
    rw [w64 (x * 256) (by omega) (by omega), w64 (x * 256 + y) (by omega) (by omega)]
    have := tm (x * 256 + y) (by omega)
    exact ⟨this.1, this.2, by omega, by omega⟩
  · have := tm x x0
    dsimp only
    exact ⟨this.1, this.2, by omega, by omega⟩
theorem one_cm {C : List Int} (hC : Code8 C) (a s n : Int) (h0 : 0 ≤ a) (h1 : a ≤ 100000000) (hn : 1 ≤ n) (hN : n ≤ 100000) : Cm (fun _ => spec_l1Cur_one.f C a s n) (fun r => a ≤ r.2.1 ∧ r.2.1 ≤ a + 2) := by
  unfold spec_l1Cur_one.f
  refine Cm.bind (pick_cm hC a s n h0 h1 hn hN) ?_
  rintro ⟨x, a1, s1⟩ ⟨_, _, x2, x3⟩
  exact Cm.now ⟨x2, x3⟩
theorem rInts_same (l : List Int) (hl : l.length ≤ 1048576) : Ev (fun k => laws_rInts.f k l l) true := by
  refine Cm.ev ?_
  unfold laws_rInts.f
  refine Cm.pos rfl (Cm.up (fun k i (_ : Unit) => laws_rInts.l0 k l l i) l.length (fun i _ => 0 ≤ i) _ ?_ 0 () (by omega) (by omega))
  rintro i - hi i0 ih
  by_cases h : i < l.length
  · exact Cm.step (fun k => by simp (disch := omega) only [laws_rInts.l0, if_pos h, if_pos i0, if_true, w64 (i + 1)]; try rfl) (ih () h (by omega))
  · exact Cm.step (fun k => by simp only [laws_rInts.l0, if_neg h]; try rfl) (Cm.now rfl)
theorem rTable_same (l : List (List Int)) (hl : l.length ≤ 1048576) (hr : ∀ x ∈ l, List.length x ≤ 1048576) : Ev (fun k => laws_rTable.f k l l) true := by
  refine Cm.ev ?_
  unfold laws_rTable.f
  refine Cm.pos rfl (Cm.up (fun k i (_ : Unit) => laws_rTable.l0 k l l i) l.length (fun i _ => 0 ≤ i) _ ?_ 0 () (by omega) (by omega))
  rintro i - hi i0 ih
  by_cases h : i < l.length
  · have hm : rd_L7 l i ∈ l := by
      have e : rd_L7 l i = l[i.toNat]'(by omega) := by
        have : rd_L7 l i = l.getD i.toNat [] := rfl
        rw [this, List.getD_eq_getElem?_getD, List.getElem?_eq_getElem (by omega)]
        rfl
      rw [e]
      exact List.getElem_mem _
    refine Cm.step (fun k => by simp (disch := omega) only [laws_rTable.l0, if_pos h, if_pos i0, w64 (i + 1)]; try rfl) ?_
    exact Cm.bindE (rInts_same _ (hr _ hm)) (Cm.pos rfl (ih () h (by omega)))
  · exact Cm.step (fun k => by simp only [laws_rTable.l0, if_neg h]; try rfl) (Cm.now rfl)
theorem among_cm {C : List Int} (hC : Code8 C) (a s : Int) (l : List Int) (h0 : 0 ≤ a) (h1 : a ≤ 100000000) (hn : 1 ≤ l.length) (hN : l.length ≤ 1000) : Cm (fun _ => spec_l1Cur_among.f C a s l) (fun r => r.1 ∈ l ∧ a ≤ r.2.1 ∧ r.2.1 ≤ a + 2) := by
  unfold spec_l1Cur_among.f
  refine Cm.bind (pick_cm hC a s l.length h0 h1 (by omega) (by omega)) ?_
  rintro ⟨x, a1, s1⟩ ⟨x0, x1, x2, x3⟩
  dsimp only at x0 x1 x2 x3 ⊢
  exact Cm.pos x0 (Cm.pos x1 (Cm.now ⟨rd_mem l x x0 x1, x2, x3⟩))
theorem marred_cm {C : List Int} (hC : Code8 C) (a s n : Int) (l : List S71) (h0 : 0 ≤ a) (h1 : a ≤ 90000000) (hl : l.length ≤ 1000) : Cm (fun _ => spec_l1Cur_marred.f C a s n l) (fun r => r.2.1.length ≤ l.length + 1 ∧ a ≤ r.2.2.1 ∧ r.2.2.1 ≤ a + 6) := by
  unfold spec_l1Cur_marred.f
  refine Cm.bind (pick_cm hC a s 50 h0 (by omega) (by omega) (by omega)) ?_
  rintro ⟨x, a1, s1⟩ ⟨x0, x1, x2, x3⟩
  dsimp only at x0 x1 x2 x3 ⊢
  refine Cm.ite (fun _ => Cm.bind (among_cm hC a1 s1 _ (by omega) (by omega) (by decide) (by decide)) ?_) (fun _ => Cm.ite (fun _ => Cm.bind (pick_cm hC a1 s1 4 (by omega) (by omega) (by omega) (by omega)) ?_) (fun _ => Cm.ite (fun _ => Cm.ite (fun hp => Cm.bind (pick_cm hC a1 s1 l.length (by omega) (by omega) (by omega) (by omega)) ?_) (fun _ => Cm.now ⟨by dsimp only; omega, by dsimp only; omega, by dsimp only; omega⟩)) (fun _ => Cm.now ⟨by dsimp only; omega, by dsimp only; omega, by dsimp only; omega⟩)))
  · rintro ⟨y, a2, s2⟩ ⟨_, y1, y2⟩
    dsimp only at y1 y2 ⊢
    exact Cm.now ⟨by dsimp only; omega, by dsimp only; omega, by dsimp only; omega⟩
  · rintro ⟨y, a2, s2⟩ ⟨_, _, y1, y2⟩
    dsimp only at y1 y2 ⊢
    refine Cm.bind (pick_cm hC a2 s2 9 (by omega) (by omega) (by omega) (by omega)) ?_
    rintro ⟨z, a3, s3⟩ ⟨_, _, z1, z2⟩
    dsimp only at z1 z2 ⊢
    exact Cm.pos (by omega) (Cm.now ⟨by simp, by dsimp only; omega, by dsimp only; omega⟩)
  · rintro ⟨y, a2, s2⟩ ⟨w0, w1, y1, y2⟩
    dsimp only at w0 w1 y1 y2 ⊢
    exact Cm.pos w0 (Cm.pos w1 (Cm.pos (by omega) (Cm.now ⟨by simp, by dsimp only; omega, by dsimp only; omega⟩)))
/-- A pair more, wherever it is put. -/
theorem putDr_len (l : List S71) (x y : Int) (hl : l.length ≤ 10000) : Cm (fun k => spec_l2Put.f k l x y) (fun r => r.length = l.length + 1 ∧ ∀ e ∈ r, e = ⟨x, y⟩ ∨ e ∈ l) := by
  unfold spec_l2Put.f
  have fin : ∀ i : Int, 0 ≤ i → i ≤ l.length → (l.take i.toNat ++ [(⟨x, y⟩ : S71)] ++ l.drop i.toNat).length = l.length + 1 ∧ ∀ e ∈ l.take i.toNat ++ [(⟨x, y⟩ : S71)] ++ l.drop i.toNat, e = ⟨x, y⟩ ∨ e ∈ l := by
    intro i h0 h1
    refine ⟨by rw [List.length_append, List.length_append, List.length_take, List.length_drop, List.length_singleton]; omega, fun e he => ?_⟩
    rcases List.mem_append.1 he with he | he
    · rcases List.mem_append.1 he with he | he
      · exact .inr (List.mem_of_mem_take he)
      · exact .inl (List.mem_singleton.1 he)
    · exact .inr (List.mem_of_mem_drop he)
  refine Cm.up (fun k i (_ : Unit) => spec_l2Put.l0 k l i x y) l.length (fun i _ => 0 ≤ i) _ ?_ 0 () (by omega) (by omega)
  rintro i - hi h0 ih
  by_cases h : i < l.length
  · cases hb : decide ((rd_T71 l i).f0 < x ∨ ((rd_T71 l i).f0 = x ∧ (rd_T71 l i).f1 < y)) with
    | true =>
      exact Cm.step (fun k => by simp (disch := omega) only [spec_l2Put.l0, if_pos h, if_pos h0, before_eq, hb, Option.bind_some, if_true, w64 (i + 1)]; try rfl) (ih () h (by omega))
    | false =>
      exact Cm.step (fun k => by simp (disch := omega) only [spec_l2Put.l0, if_pos h, if_pos h0, before_eq, hb, Bool.false_eq_true, if_false, Option.bind_some, List.nil_append, List.length_nil, Nat.zero_add, List.length_append, List.length_take, List.length_drop, List.length_singleton, if_pos]; try rfl) (Cm.now (fin i h0 hi))
  · exact Cm.step (fun k => by simp (disch := omega) only [spec_l2Put.l0, Option.bind_some, if_neg h, if_pos h0, List.nil_append, List.length_nil, Nat.zero_add, List.length_append, List.length_take, List.length_drop, List.length_singleton, if_pos]; try rfl) (Cm.now (fin i h0 hi))
theorem pathDr_len (n : Int) (h0 : 0 ≤ n) (h8 : n ≤ 8) : Cm (fun k => spec_l2Path.f k n) (fun r => r.2.length ≤ 8) := by
  unfold spec_l2Path.f
  refine Cm.up (fun k i (z : List S71) => spec_l2Path.l0 k n i n z) (n + 1) (fun i z => 0 ≤ i ∧ (z.length : Int) ≤ i ∧ (z.length : Int) ≤ 8) _ ?_ 0 [] (by omega) ⟨by omega, by simp, by simp⟩
  rintro i z hi ⟨i0, hl, hl8⟩ ih
  have hw : wrap64 (i + 1) = i + 1 := w64 _ (by omega) (by omega)
  by_cases h : i + 1 < n
  · refine Cm.step (fun k => by simp only [spec_l2Path.l0, hw, if_pos h]; try rfl) (Cm.pos (by omega) (ih _ (by omega) ⟨by omega, ?_, ?_⟩)) <;> (rw [List.length_append, List.length_singleton]; omega)
  · exact Cm.step (fun k => by simp only [spec_l2Path.l0, hw, if_neg h]; try rfl) (Cm.now (by dsimp only; omega))
theorem cycle_len (n : Int) (h0 : 0 ≤ n) (h8 : n ≤ 8) : Cm (fun k => spec_l2Cycle.f k n) (fun r => r.2.length ≤ 9) := by
  unfold spec_l2Cycle.f
  refine Cm.bind (pathDr_len n h0 h8) ?_
  rintro ⟨m, l⟩ hl
  dsimp only at hl ⊢
  refine Cm.bind (putDr_len l _ _ (by omega)) ?_
  rintro r ⟨hr, _⟩
  exact Cm.now (by dsimp only; omega)
theorem complete_len (n : Int) (h0 : 0 ≤ n) (h8 : n ≤ 8) : Cm (fun k => spec_l2Complete.f k n) (fun r => r.2.length ≤ 64) := by
  unfold spec_l2Complete.f
  refine Cm.up (fun k i (z : List S71) => spec_l2Complete.l0 k n i n z) n (fun i z => 0 ≤ i ∧ (z.length : Int) ≤ 8 * i) _ ?_ 0 [] (by omega) ⟨by omega, by simp⟩
  rintro i z hi ⟨i0, hl⟩ ih
  have hw : wrap64 (i + 1) = i + 1 := w64 _ (by omega) (by omega)
  by_cases h : i < n
  · refine Cm.step (fun k => by simp only [spec_l2Complete.l0, hw, if_pos h]; try rfl) ?_
    refine Cm.up (fun k j (z : List S71) => spec_l2Complete.l1 k n i j n z) n (fun j z => i < j ∧ (z.length : Int) ≤ 8 * i + (j - i)) _ ?_ (i + 1) z (by omega) ⟨by omega, by omega⟩
    rintro j z hj ⟨j0, hlj⟩ ih2
    have hwj : wrap64 (j + 1) = j + 1 := w64 _ (by omega) (by omega)
    by_cases hc : j < n
    · refine Cm.step (fun k => by simp only [spec_l2Complete.l1, hwj, if_pos hc]; try rfl) (Cm.pos (by omega) (ih2 _ hc ⟨by omega, ?_⟩))
      rw [List.length_append, List.length_singleton]
      omega
    · exact Cm.step (fun k => by simp only [spec_l2Complete.l1, hw, if_neg hc]; try rfl) (ih z h ⟨by omega, by omega⟩)
  · exact Cm.step (fun k => by simp only [spec_l2Complete.l0, if_neg h]; try rfl) (Cm.now (by dsimp only; omega))
theorem least_cm (a b : Int) : spec_l1Least.f a b = some (min a b) := by
  unfold spec_l1Least.f
  by_cases h : a < b
  · rw [if_pos h, show min a b = a by omega]
  · rw [if_neg h, show min a b = b by omega]
theorem most_cm (a b : Int) : spec_l1Most.f a b = some (max a b) := by
  unfold spec_l1Most.f
  by_cases h : a > b
  · rw [if_pos h, show max a b = a by omega]
  · rw [if_neg h, show max a b = b by omega]
/-- A few pairs, and not far on in the code. -/
def Few (A : Int) (r : Int × List S71 × Int × Int) : Prop := r.2.1.length ≤ 200 ∧ A ≤ r.2.2.1 ∧ r.2.2.1 ≤ A + 400
theorem some_j1 {C : List Int} (hC : Code8 C) (A a s m x : Int) (m0 : 0 ≤ m) (m8 : m ≤ 8) (x0 : 0 ≤ x) (x8 : x ≤ 8) (hA : 0 ≤ A) (hA2 : A ≤ a) (h1 : a ≤ A + 10) (hB : A ≤ 80000000) : Cm (fun k => spec_l1Cur_someGraph.j1 k m x C a s) (Few A) := by
  refine Cm.step (fun k => by simp only [spec_l1Cur_someGraph.j1, least_cm, Option.bind_some]; try rfl) ?_
  obtain ⟨n, hn⟩ : ∃ n, n = min x m := ⟨_, rfl⟩
  rw [← hn]
  have n0 : 0 ≤ n := by omega
  have n8 : n ≤ 8 := by omega
  clear hn
  refine Cm.bind (pick_cm hC a s 8 (by omega) (by omega) (by omega) (by omega)) ?_
  rintro ⟨q, a1, s1⟩ ⟨_, _, q1, q2⟩
  dsimp only at q1 q2 ⊢
  have fin : ∀ (n' : Int) (l : List S71), l.length ≤ 100 → Cm (fun _ => (spec_l1Cur_marred.f C a1 s1 n' l).bind fun bt => some (bt.1, bt.2.1, bt.2.2.1, bt.2.2.2)) (Few A) := fun n' l hl => by
    refine Cm.bind (marred_cm hC a1 s1 n' l (by omega) (by omega) (by omega)) ?_
    rintro ⟨u, v, w, z⟩ ⟨v1, v2, v3⟩
    exact Cm.now ⟨by dsimp only at v1 ⊢; omega, by dsimp only at v2 ⊢; omega, by dsimp only at v3 ⊢; omega⟩
  refine Cm.ite (fun _ => Cm.bind (pathDr_len n n0 n8) ?_) (fun _ => Cm.ite (fun _ => Cm.ite (fun _ => Cm.bind (cycle_len n n0 n8) ?_) (fun _ => fin n [] (by simp))) (fun _ => Cm.ite (fun _ => Cm.bind (complete_len n n0 n8) ?_) (fun _ => Cm.bind (among_cm hC a1 s1 _ (by omega) (by omega) (by decide) (by decide)) ?_)))
  · rintro ⟨u, v⟩ hv
    dsimp only at hv ⊢
    exact fin u v (by omega)
  · rintro ⟨u, v⟩ hv
    dsimp only at hv ⊢
    exact fin u v (by omega)
  · rintro ⟨u, v⟩ hv
    dsimp only at hv ⊢
    exact fin u v (by omega)
  · rintro ⟨de, a2, s2⟩ ⟨hde, d1, d2⟩
    dsimp only at hde d1 d2 ⊢
    have de0 : 1 ≤ de ∧ de ≤ 6 := by
      simp only [List.mem_cons, List.not_mem_nil, or_false] at hde
      omega
    refine Cm.bind (one_cm hC a2 s2 6 (by omega) (by omega) (by omega) (by omega)) ?_
    rintro ⟨lo, a3, s3⟩ ⟨l1, l2⟩
    dsimp only at l1 l2 ⊢
    refine Cm.up (fun k i (z : List S71 × Int × Int) => spec_l1Cur_someGraph.l0 k n de lo i C z.2.1 z.2.2 n z.1) n (fun i z => 0 ≤ i ∧ (z.1.length : Int) ≤ 9 * i ∧ A ≤ z.2.1 ∧ z.2.1 ≤ A + 20 + 20 * i) _ ?_ 0 ([], a3, s3) (by omega) ⟨by omega, by simp, by dsimp only; omega, by dsimp only; omega⟩
    rintro i ⟨z, b, t⟩ hi ⟨i0, hl, hb0, hb1⟩ ih
    dsimp only at hl hb0 hb1 ⊢
    have hw : wrap64 (i + 1) = i + 1 := w64 _ (by omega) (by omega)
    by_cases h : i < n
    · refine Cm.step (fun k => by simp only [spec_l1Cur_someGraph.l0, hw, if_pos h]; try rfl) ?_
      refine Cm.up (fun k j (z : List S71 × Int × Int) => spec_l1Cur_someGraph.l1 k n de lo i j C z.2.1 z.2.2 n z.1) n (fun j z => i < j ∧ (z.1.length : Int) ≤ 9 * i + (j - i - 1) ∧ A ≤ z.2.1 ∧ z.2.1 ≤ A + 20 + 20 * i + 2 * (j - i - 1)) _ ?_ (i + 1) (z, b, t) (by omega) ⟨by omega, by dsimp only; omega, by dsimp only; omega, by dsimp only; omega⟩
      rintro j ⟨z, b, t⟩ hj ⟨j0, hlj, hbj0, hbj1⟩ ih2
      dsimp only at hlj hbj0 hbj1 ⊢
      have hwj : wrap64 (j + 1) = j + 1 := w64 _ (by omega) (by omega)
      by_cases hc : j < n
      · refine Cm.step (fun k => by simp only [spec_l1Cur_someGraph.l1, hwj, if_pos hc]; try rfl) (Cm.bind (pick_cm hC b t de (by omega) (by omega) (by omega) (by omega)) ?_)
        rintro ⟨p, b2, t2⟩ ⟨_, _, p1, p2⟩
        dsimp only at p1 p2 ⊢
        refine Cm.ite (fun _ => Cm.bind (putDr_len z _ _ (by omega)) ?_) (fun _ => ih2 (z, b2, t2) hc ⟨by omega, by dsimp only; omega, by dsimp only; omega, by dsimp only; omega⟩)
        rintro r ⟨hr, _⟩
        exact ih2 (r, b2, t2) hc ⟨by omega, by dsimp only; omega, by dsimp only; omega, by dsimp only; omega⟩
      · have go : ∀ (r : List S71) (b2 t2 : Int), r.length ≤ z.length + 1 → b ≤ b2 → b2 ≤ b + 2 → Cm (fun k => spec_l1Cur_someGraph.l0 k n de lo (i + 1) C b2 t2 n r) (Few A) := fun r b2 t2 h1 h2 h3 => ih (r, b2, t2) h ⟨by omega, by dsimp only; omega, by dsimp only; omega, by dsimp only; omega⟩
        refine Cm.step (fun k => by simp only [spec_l1Cur_someGraph.l1, hw, if_neg hc, most_cm, Option.bind_some]; try rfl) (Cm.bind (pick_cm hC b t (max i 1) (by omega) (by omega) (by omega) (by omega)) ?_)
        rintro ⟨p, b2, t2⟩ ⟨_, _, p1, p2⟩
        dsimp only at p1 p2 ⊢
        refine Cm.ite (fun _ => Cm.ite (fun _ => go z b2 t2 (by omega) p1 p2) (fun _ => Cm.bindE (near_ev n z i p (by omega)) (Cm.ite (fun _ => go z b2 t2 (by omega) p1 p2) (fun _ => Cm.bind (putDr_len z _ _ (by omega)) ?_)))) (fun _ => go z b2 t2 (by omega) p1 p2)
        rintro r ⟨hr, _⟩
        exact go r b2 t2 (by omega) p1 p2
    · refine Cm.step (fun k => by simp only [spec_l1Cur_someGraph.l0, if_neg h]; try rfl) (Cm.bind (marred_cm hC b t n z (by omega) (by omega) (by omega)) ?_)
      rintro ⟨u, v, w, y⟩ ⟨v1, v2, v3⟩
      exact Cm.now ⟨by dsimp only at v1 ⊢; omega, by dsimp only at v2 ⊢; omega, by dsimp only at v3 ⊢; omega⟩
theorem someDr_cm {C : List Int} (hC : Code8 C) (a s m : Int) (m0 : 0 ≤ m) (m8 : m ≤ 8) (h0 : 0 ≤ a) (h1 : a ≤ 80000000) : Cm (fun k => spec_l1Cur_someGraph.f k C a s m) (Few a) := by
  unfold spec_l1Cur_someGraph.f
  refine Cm.bind (among_cm hC a s _ h0 (by omega) (by decide) (by decide)) ?_
  rintro ⟨x, a1, s1⟩ ⟨hx, x1, x2⟩
  dsimp only at hx x1 x2 ⊢
  have hx8 : 0 ≤ x ∧ x ≤ 8 := by
    simp only [List.mem_cons, List.not_mem_nil, or_false] at hx
    omega
  have no : ∀ a2 s2, a ≤ a2 → a2 ≤ a + 4 → Cm (fun k => spec_l1Cur_someGraph.j0 k m x false C a2 s2) (Few a) := fun a2 s2 g0 g1 =>
    Cm.step (fun k => by simp only [spec_l1Cur_someGraph.j0, Bool.false_eq_true, if_false]; try rfl) (some_j1 hC a a2 s2 m x m0 m8 hx8.1 hx8.2 h0 g0 (by omega) h1)
  refine Cm.ite (fun _ => Cm.bind (one_cm hC a1 s1 4 (by omega) (by omega) (by omega) (by omega)) ?_) (fun _ => no a1 s1 x1 (by omega))
  rintro ⟨b, a2, s2⟩ ⟨b1, b2⟩
  dsimp only at b1 b2 ⊢
  cases b with
  | false => exact no a2 s2 (by omega) (by omega)
  | true =>
    refine Cm.step (fun k => by simp only [spec_l1Cur_someGraph.j0, if_true]; try rfl) (Cm.bind (pick_cm hC a2 s2 2 (by omega) (by omega) (by omega) (by omega)) ?_)
    rintro ⟨y, a3, s3⟩ ⟨y0, y1, y2, y3⟩
    dsimp only at y0 y1 y2 y3 ⊢
    rw [w64 (7 + y) (by omega) (by omega)]
    exact some_j1 hC a a3 s3 m (7 + y) m0 m8 (by omega) (by omega) h0 (by omega) (by omega) h1
end Go.Proofs.Ytcjddikalgnhpaa.Gr
namespace Go.Proofs.Ytcjddikalgnhpaa.Pure
open Go.RowKit Go.Proofs.Ytcjddikalgnhpaa.P Go.Proofs.YtcjddikalgnhpaaW.PrintWords Go.Proofs.YtcjddikalgnhpaaW.PrintLast Go.Proofs.YtcjddikalgnhpaaW.PrintMore Go.Proofs.Ytcjddikalgnhpaa.Gr
theorem rGraphP_same (s : Int) (l : List S71) (hl : l.length ≤ 1048576) : Ev (fun k => laws_rGraph.f k s l s l) true := by
  refine Cm.ev ?_
  unfold laws_rGraph.f
  refine Cm.pos rfl ?_
  rw [show ((l.length : Int) != (l.length : Int)) = false from by simp]
  refine Cm.step (fun k => by simp only [laws_rGraph.j0, Bool.false_eq_true, if_false]; try rfl) ?_
  refine Cm.up (fun k i (_ : Unit) => laws_rGraph.l0 k i s l s l) l.length (fun i _ => 0 ≤ i) _ ?_ 0 () (by omega) (by omega)
  rintro i - hi i0 ih
  by_cases h : i < l.length
  · exact Cm.step (fun k => by simp (disch := omega) only [laws_rGraph.l0, if_pos h, if_pos i0, beq_self_eq_true, Bool.not_true, Bool.or_self, Bool.false_eq_true, if_false, w64 (i + 1)]; try rfl) (ih () h (by omega))
  · exact Cm.step (fun k => by simp only [laws_rGraph.l0, if_neg h]; try rfl) (Cm.now rfl)
theorem drawTwo_cm {C : List Int} (hC : Code8 C) : Cm (fun k => spec_DrawCartesianProduct.f k C) (fun r => r.2.1.length ≤ 200 ∧ r.2.2.2.length ≤ 200) := by
  unfold spec_DrawCartesianProduct.f spec_DrawCartesianProduct.st
  refine Cm.bind (P := fun r => r.2.1.length ≤ 200 ∧ r.2.2.2.1.length ≤ 200) ?_ (fun r h => Cm.now h)
  refine Cm.bind (one_cm hC 0 0 6 (by omega) (by omega) (by omega) (by omega)) ?_
  rintro ⟨b, a, s⟩ ⟨a0, a1⟩
  dsimp only at a0 a1 ⊢
  have two : ∀ (a s p q : Int), 0 ≤ a → a ≤ 1000 → 0 ≤ p → p ≤ 8 → 0 ≤ q → q ≤ 8 → Cm (fun k => (spec_l1Cur_someGraph.f k C a s p).bind fun bt106 => (spec_l1Cur_someGraph.f k C bt106.2.2.1 bt106.2.2.2 q).bind fun bt112 => some (bt106.1, bt106.2.1, bt112.1, bt112.2.1, bt112.2.2.1, bt112.2.2.2)) (fun r => r.2.1.length ≤ 200 ∧ r.2.2.2.1.length ≤ 200) := by
    intro a s p q a0 a1 p0 p8 q0 q8
    refine Cm.bind (someDr_cm hC a s p p0 p8 (by omega) (by omega)) ?_
    rintro ⟨n, l, b, u⟩ ⟨hl, b0, b1⟩
    dsimp only at hl b0 b1 ⊢
    refine Cm.bind (someDr_cm hC b u q q0 q8 (by omega) (by omega)) ?_
    rintro ⟨n2, l2, c, v⟩ ⟨hl2, _, _⟩
    exact Cm.now ⟨hl, hl2⟩
  refine Cm.ite (fun _ => two a s 4 3 (by omega) (by omega) (by omega) (by omega) (by omega) (by omega)) (fun _ => Cm.bind (among_cm hC a s _ (by omega) (by omega) (by decide) (by decide)) ?_)
  rintro ⟨x, b, u⟩ ⟨hx, b0, b1⟩
  dsimp only at hx b0 b1 ⊢
  have : 0 ≤ x ∧ x ≤ 8 := by
    simp only [List.mem_cons, List.not_mem_nil, or_false] at hx
    omega
  exact two b u x 2 (by omega) (by omega) this.1 this.2 (by omega) (by omega)
theorem drawOne_cm {C : List Int} (hC : Code8 C) : Cm (fun k => spec_DrawComplementOf.f k C) (fun r => r.2.length ≤ 200) := by
  unfold spec_DrawComplementOf.f spec_DrawIsGraph.f spec_DrawIsGraph.st spec_l1Cur_bigGraph.f
  refine Cm.bind (P := fun r => r.2.length ≤ 200) ?_ (fun r h => Cm.now h)
  refine Cm.bind (P := fun r => r.2.1.length ≤ 200) ?_ (fun r h => Cm.now h)
  refine Cm.bind (P := fun r => r.2.1.length ≤ 200) ?_ (fun r h => Cm.now h)
  refine Cm.bind (someDr_cm hC 0 0 8 (by omega) (by omega) (by omega) (by omega)) ?_
  rintro ⟨n, l, b, u⟩ ⟨hl, _, _⟩
  exact Cm.now hl
theorem up2_sorted {l : List S71} (h : Up2 l) : Sorted l := by
  intro j j0 j1
  have e1 : rd_T71 l (j - 1) = l[(j - 1).toNat]'(by omega) := by
    have := rd_lt l (j - 1) (by omega) (by omega)
    rw [List.getElem?_eq_getElem (by omega)] at this
    exact (Option.some.inj this).symm
  have e2 : rd_T71 l j = l[j.toNat]'(by omega) := by
    have := rd_lt l j (by omega) (by omega)
    rw [List.getElem?_eq_getElem (by omega)] at this
    exact (Option.some.inj this).symm
  rw [e1, e2]
  exact List.pairwise_iff_getElem.1 h (j - 1).toNat j.toNat (by omega) (by omega) (by omega)
theorem pairs_yes {h : Int → Int → Bool} {n : Int} (n0 : 0 ≤ n) (n8 : n ≤ 8) : Gr.Good n (pairs h n) ∧ Sorted (pairs h n) ∧ Ev (fun k => spec_l2Good.f k n (pairs h n)) true ∧ Ev (fun k => impl_IsGraph.f k n (pairs h n)) true := by
  have g : Gr.Good n (pairs h n) := ⟨n0, n8, fun i i0 i1 => by
    have h := mem_pairs.1 (List.mem_of_getElem? (rd_lt _ i i0 i1))
    exact ⟨h.1, h.2.1, h.2.2.1⟩⟩
  have s := up2_sorted (pairs_up h n)
  have l := pairs_len h n (by omega)
  have y := good_yes n (pairs h n) (by omega) g s
  exact ⟨g, s, y.1, y.2⟩
theorem far_far {s : Int} {l : List S71} (hG : Gr.Good s l) (hO : Sorted l) : pairs (far (pairs (far l) s)) s = l := by
  have e := good_pairs hG hO
  conv => rhs; rw [e]
  refine pairs_congr _ _ _ (fun a b a0 ab bs => ?_)
  have g : Gr.Good s (pairs (fun x y => !near l x y) s) := (pairs_yes hG.1 hG.2.1).1
  unfold far
  rw [show near (pairs (fun x y => !near l x y) s) a b = !near l a b from by
    rw [Bool.eq_iff_iff, near_lt g ab, mem_pairs]
    exact ⟨fun h => h.2.2.2, fun h => ⟨a0, ab, bs, h⟩⟩, Bool.not_not]
theorem far_count {s : Int} {l : List S71} (hG : Gr.Good s l) (hO : Sorted l) : ((pairs (far l) s).length : Int) + (l.length : Int) = Int.tdiv (s * (s - 1)) 2 := by
  have h0 := hG.1
  have h8 := hG.2.1
  have c := pairs_count (near l) s.toNat
  rw [Int.toNat_of_nonneg h0, ← good_pairs hG hO] at c
  have f := of_decide_eq_true (List.all_eq_true.1 pairs_full s.toNat (List.mem_range.2 (by omega)))
  rw [Int.toNat_of_nonneg h0] at f
  have e : (pairs (far l) s).length = (pairs (fun x y => !near l x y) s).length := rfl
  rw [← f, Int.mul_comm, Int.mul_tdiv_cancel _ (by decide)]
  omega
theorem rDist_yes (s : Int) (l : List S71) (t : List (List Int)) (hl : t.length ≤ 1024) (hr : ∀ x ∈ t, List.length x ≤ 1024) (h : Ev (fun k => spec_DistancesOf.f k s l) (t, true)) : Ev (fun k => laws_rDistances.f k s l t) true := by
  refine Cm.ev ?_
  unfold laws_rDistances.f
  exact Cm.bindE h (Cm.pos rfl (Cm.bindE (rTable_same t (by omega) (fun z hz => by have := hr z hz; omega)) (Cm.now rfl)))
theorem prod_loop (s t : Int) (l m : List S71) (hG : Gr.Good s l) (kG : Gr.Good t m) (h8 : s * t ≤ 8) (A B T U : List (List Int)) (hA : TabX s l A) (hB : TabX t m B) (hT : TabX (s * t) (pairs (prodH false l m t) (s * t)) T) (hU : TabX (s * t) (pairs (prodH true l m t) (s * t)) U) :
    Cm (fun k => laws_FnProducts.l0 k A B T U 0 t m (s * t) (pairs (prodH false l m t) (s * t))) (fun z => z = true) := by
  obtain ⟨f0, f1, f2⟩ := size_facts hG.1 hG.2.1 kG.1 kG.2.1
  have s8 := hG.2.1
  have t8 := kG.2.1
  have hAl := hA.1
  have hBl := hB.1
  have hTl := hT.1
  have hUl := hU.1
  refine Cm.up (fun k i (_ : Unit) => laws_FnProducts.l0 k A B T U i t m (s * t) (pairs (prodH false l m t) (s * t))) (s * t) (fun i _ => 0 ≤ i) _ ?_ 0 () (by omega) (by omega)
  rintro x - hx x0 ih
  by_cases hc : x < s * t
  · have ht : 0 < t := by
      rcases Int.lt_or_eq_of_le kG.1 with c | c
      · exact c
      · rw [← c, Int.mul_zero] at hc
        omega
    obtain ⟨xa, xb, xe⟩ := idx_of ht ⟨x0, hc⟩
    refine Cm.step (fun k => by simp only [laws_FnProducts.l0, if_pos hc]; try rfl) ?_
    refine Cm.up (fun k i (_ : Unit) => laws_FnProducts.l1 k A B T U x i t m (s * t) (pairs (prodH false l m t) (s * t))) (s * t) (fun i _ => 0 ≤ i) _ ?_ 0 () (by omega) (by omega)
    rintro y - hy y0 ih2
    by_cases hd : y < s * t
    · obtain ⟨ya, yb, ye⟩ := idx_of ht ⟨y0, hd⟩
      have rA : ((rd_L7 A (Int.tdiv x t)).length : Int) = s := (hA.2 _ xa.1 xa.2).1
      have rB : ((rd_L7 B (Int.tmod x t)).length : Int) = t := (hB.2 _ xb.1 xb.2).1
      have rT : ((rd_L7 T x).length : Int) = s * t := (hT.2 x x0 hc).1
      have rU : ((rd_L7 U x).length : Int) = s * t := (hU.2 x x0 hc).1
      have w1 : wrap64 (Int.tdiv x t) = Int.tdiv x t := w64 _ (by omega) (by omega)
      have w2 : wrap64 (Int.tdiv y t) = Int.tdiv y t := w64 _ (by omega) (by omega)
      have w3 : wrap64 (y + 1) = y + 1 := w64 _ (by omega) (by omega)
      have v1 := ((hA.2 _ xa.1 xa.2).2 _ ya.1 ya.2).1
      have v2 := ((hB.2 _ xb.1 xb.2).2 _ yb.1 yb.2).1
      obtain ⟨L, hL⟩ : ∃ L, L = rd (A.getD (Int.tdiv x t).toNat []) (Int.tdiv y t) := ⟨_, rfl⟩
      obtain ⟨R, hR⟩ : ∃ R, R = rd (B.getD (Int.tmod x t).toNat []) (Int.tmod y t) := ⟨_, rfl⟩
      have eL : rd (rd_L7 A (Int.tdiv x t)) (Int.tdiv y t) = L := hL.symm
      have eR : rd (rd_L7 B (Int.tmod x t)) (Int.tmod y t) = R := hR.symm
      have dT := dst_flat hG kG ht h8 hA hB hT ⟨x0, hc⟩ ⟨y0, hd⟩
      have dU := dst_strong hG kG ht h8 hA hB hU ⟨x0, hc⟩ ⟨y0, hd⟩
      rw [← hL, ← hR] at dT dU
      rw [← hL] at v1
      rw [← hR] at v2
      have eT : rd (rd_L7 T x) y = rd (T.getD x.toNat []) y := rfl
      have eU : rd (rd_L7 U x) y = rd (U.getD x.toNat []) y := rfl
      have w4 : wrap64 (L + R) = L + R := w64 _ (by omega) (by omega)
      have last : ∀ (b : Bool) (g : Int), b = decide (L < 0 ∨ R < 0) → g = (if R > L then R else L) → Cm (fun k => laws_FnProducts.j8 k A B T U x y (L + R) g b t m (s * t) (pairs (prodH false l m t) (s * t))) (fun z => z = true) := by
        intro b g hb hg
        refine Cm.step (fun k => by simp only [laws_FnProducts.j8, if_pos x0, if_pos y0, hTl, hUl, rT, rU, if_pos hc, if_pos hd, eT, eU, w3]; try rfl) ?_
        by_cases hn : L < 0 ∨ R < 0
        · rw [if_pos hn] at dT dU
          rw [hb, decide_eq_true hn]
          exact Cm.pos rfl (Cm.pos dT (Cm.pos dU (ih2 () hd (by omega))))
        · rw [if_neg hn] at dT dU
          rw [hb, decide_eq_false hn, hg]
          exact Cm.neg (by decide) (Cm.pos dT (Cm.pos dU (ih2 () hd (by omega))))
      have mid : ∀ g : Int, g = (if R > L then R else L) → Cm (fun k => laws_FnProducts.j7 k A B T U x y L R (L + R) g t m (s * t) (pairs (prodH false l m t) (s * t))) (fun z => z = true) := by
        intro g hg
        refine Cm.step (fun k => by simp only [laws_FnProducts.j7]; try rfl) (Cm.ite (fun hl => last true g ?_ hg) (fun hl => last _ g ?_ hg))
        · rw [decide_eq_true (Or.inl hl)]
        · rw [decide_eq_decide]
          exact ⟨.inr, fun h => h.elim (fun h => (hl h).elim) id⟩
      refine Cm.step (fun k => by simp only [laws_FnProducts.l1, if_pos hd, w1, w2, hAl, hBl, rA, rB, if_pos xa.1, if_pos xa.2, if_pos xb.1, if_pos xb.2, if_pos ya.1, if_pos ya.2, if_pos yb.1, if_pos yb.2, eL, eR, w4, if_neg (show ¬ t = 0 by omega)]; try rfl) ?_
      exact Cm.ite (fun h => mid R (if_pos h).symm) (fun h => mid L (if_neg h).symm)
    · refine Cm.step (fun k => by simp only [laws_FnProducts.l1, if_neg hd]; try rfl) ?_
      rw [w64 (x + 1) (by omega) (by omega)]
      exact ih () hc (by omega)
  · exact Cm.step (fun k => by simp only [laws_FnProducts.l0, if_neg hc]; try rfl) (Cm.now rfl)
theorem FnProducts : laws_FnProducts.Pure := by
  intro C _ hx
  refine Ev.rounds (Cm.ev ?_)
  unfold laws_FnProducts.f laws_rBig.f
  refine Cm.bindE (Ev.now _) (Cm.ite (fun _ => Cm.now rfl) (fun h => ?_))
  have hC : Code8 C := code_of (by rw [decide_eq_true_eq] at h; omega) hx
  have nb : ∀ q : Bool, ¬ (q != q) = true := fun q => by cases q <;> decide
  refine Cm.bind (drawTwo_cm hC) ?_
  rintro ⟨s, l, t, m⟩ ⟨hl, hm⟩
  dsimp only at hl hm ⊢
  obtain ⟨b0, hb, hS, hI⟩ := isGraph_full s l (by omega)
  obtain ⟨c0, hc, kS, kI⟩ := isGraph_full t m (by omega)
  obtain ⟨n1, e1, b1, g1, E1, E2, r1, q1⟩ := prodC_ex s l t m (by omega) (by omega) b0 hb hS hI c0 hc kS kI
  obtain ⟨n2, e2, b2, g2, E3, E4, r2, q2⟩ := prodS_ex s l t m (by omega) (by omega) b0 hb hS hI c0 hc kS kI
  have e12 : b2 = b1 := r2.trans r1.symm
  subst e12
  refine Cm.bindE E2 (Cm.bindE E1 (Cm.neg (nb b2) (Cm.bindE (rGraphP_same n1 e1 (by omega)) ?_)))
  refine Cm.step (fun k => by simp only [laws_FnProducts.j0, Bool.not_true, Bool.false_eq_true, if_false]; try rfl) ?_
  refine Cm.bindE E4 (Cm.bindE E3 (Cm.neg (nb b2) (Cm.neg (nb b2) (Cm.bindE (rGraphP_same n2 e2 (by omega)) ?_))))
  refine Cm.step (fun k => by simp only [laws_FnProducts.j1, Bool.not_true, Bool.false_eq_true, if_false]; try rfl) (Cm.bind (drawOne_cm hC) ?_)
  rintro ⟨u, e⟩ he
  dsimp only at he ⊢
  obtain ⟨d0, hd, dS, dI⟩ := isGraph_full u e (by omega)
  obtain ⟨n3, e3, g3, E5, E6, q3⟩ := comp_ex u e (by omega) d0 hd dS dI
  refine Cm.bindE E6 (Cm.bindE E5 (Cm.neg (nb d0) (Cm.bindE (rGraphP_same n3 e3 (by omega)) ?_)))
  have fin : Cm (fun k => laws_FnProducts.j3 k b2 s l t m n1 e1 n2 e2) (fun z => z = true) := by
    refine Cm.step (fun k => by simp only [laws_FnProducts.j3]; try rfl) (Cm.ite (fun hbt => ?_) (fun _ => Cm.now rfl))
    obtain ⟨rfl, rfl⟩ := q1 hbt
    obtain ⟨rfl, rfl⟩ := q2 hbt
    rw [r2, Bool.and_eq_true, Bool.and_eq_true, decide_eq_true_eq] at hbt
    obtain ⟨rfl, rfl, h8⟩ := hbt
    obtain ⟨hG, _⟩ := hb rfl
    obtain ⟨kG, _⟩ := hc rfl
    obtain ⟨f0, f1, f2⟩ := size_facts hG.1 hG.2.1 kG.1 kG.2.1
    obtain ⟨y1, y2, y3, y4⟩ := pairs_yes (h := prodH false l m t) f0 h8
    obtain ⟨z1, z2, z3, z4⟩ := pairs_yes (h := prodH true l m t) f0 h8
    obtain ⟨A, Al, Ar, A1, A2, hA⟩ := table_ex s l (by omega) true hb hS hI
    obtain ⟨B, Bl, Br, B1, B2, hB⟩ := table_ex t m (by omega) true hc kS kI
    obtain ⟨T, Tl, Tr, T1, T2, hT⟩ := table_ex (s * t) (pairs (prodH false l m t) (s * t)) g1 true (fun _ => ⟨y1, y2⟩) y3 y4
    obtain ⟨U, Ul, Ur, U1, U2, hU⟩ := table_ex (s * t) (pairs (prodH true l m t) (s * t)) g2 true (fun _ => ⟨z1, z2⟩) z3 z4
    refine Cm.bindE A2 (Cm.bindE B2 (Cm.bindE T2 (Cm.bindE U2 (Cm.pos rfl (Cm.pos rfl (Cm.pos rfl (Cm.pos rfl (Cm.bindE (rDist_yes s l A Al Ar A1) (Cm.pos rfl (Cm.bindE (rDist_yes t m B Bl Br B1) (Cm.pos rfl (Cm.bindE (rDist_yes _ _ T Tl Tr T1) (Cm.pos rfl (Cm.bindE (rDist_yes _ _ U Ul Ur U1) ?_))))))))))))))
    refine Cm.step (fun k => by simp only [laws_FnProducts.j4, Bool.not_true, Bool.false_eq_true, if_false]; try rfl) ?_
    exact prod_loop s t l m hG kG h8 A B T U (hA rfl) (hB rfl) (hT rfl) (hU rfl)
  refine Cm.step (fun k => by simp only [laws_FnProducts.j2, Bool.not_true, Bool.false_eq_true, if_false]; try rfl) (Cm.ite (fun hdt => ?_) (fun _ => fin))
  subst hdt
  obtain ⟨rfl, rfl⟩ := q3 rfl
  obtain ⟨hG, hO⟩ := hd rfl
  have u0 := hG.1
  have u8 := hG.2.1
  obtain ⟨y1, y2, y3, y4⟩ := pairs_yes (h := far e) u0 u8
  obtain ⟨n4, e4, g4, E7, E8, q4⟩ := comp_ex n3 (pairs (far e) n3) (by omega) true (fun _ => ⟨y1, y2⟩) y3 y4
  obtain ⟨rfl, rfl⟩ := q4 rfl
  rw [far_far hG hO] at E8
  have hcnt := far_count hG hO
  have hmul : n4 * (n4 - 1) ≤ 8 * 7 := by
    have := Int.mul_le_mul_of_nonneg_left (show n4 - 1 ≤ 7 by omega) u0
    omega
  have hmul0 : 0 ≤ n4 * (n4 - 1) := by
    by_cases h : n4 = 0
    · rw [h]; decide
    · exact Int.mul_nonneg u0 (by omega)
  have ht2 : Int.tdiv (n4 * (n4 - 1)) 2 ≤ 56 := by
    rw [Int.tdiv_eq_ediv_of_nonneg hmul0]
    omega
  have hs1 : ((pairs (far e) n4).length : Int) + (e.length : Int) ≤ 56 := by rw [hcnt]; exact ht2
  have ht3 : 0 ≤ Int.tdiv (n4 * (n4 - 1)) 2 := by rw [← hcnt]; omega
  refine Cm.bindE E8 (Cm.pos rfl (Cm.bindE (rGraphP_same n4 e (by omega)) (Cm.pos rfl (Cm.pos ?_ fin))))
  rw [w64 (n4 - 1) (by omega) (by omega), w64 (n4 * (n4 - 1)) (by omega) (by omega), w64 (Int.tdiv (n4 * (n4 - 1)) 2) (by omega) (by omega), w64 (((pairs (far e) n4).length : Int) + (e.length : Int)) (by omega) (by omega)]
  exact hcnt
end Go.Proofs.Ytcjddikalgnhpaa.Pure
