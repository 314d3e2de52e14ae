/- The pure law FnExactCountDismantlings: both lay a table of counts along all sets of nodes. -/
import Derived.Test.YtbnhckhbjoldcaaGrF
import Derived.Test.YtbnhckhbjoldcaaGrRb
import Derived.Test.YtbnhckhbjoldcaaGrSo
import Derived.Test.YtbnhckhbjoldcaaGrZ
import Derived.KernelRfl
import Derived.Test.YtbnhckhbjoldcaaPxImplCountDismantlings
import Derived.Test.YtbnhckhbjoldcaaPxLawsFnExactCountDismantlings
import Derived.Test.YtbnhckhbjoldcaaPxSpecCountDismantlings
namespace Go.Proofs.Ytbnhckhbjoldcaa.Pure
open Go.RowKit Go.Proofs.Ytbnhckhbjoldcaa.P Go.Proofs.YtbnhckhbjoldcaaW.PrintWords Go.Proofs.YtbnhckhbjoldcaaW.PrintLast Go.Proofs.YtbnhckhbjoldcaaW.PrintMore Go.Proofs.Ytbnhckhbjoldcaa.Gr

theorem pow_all : ((List.range 9).all fun s => shl .i64 1 (s : Int) == ((2 ^ s : Nat) : Int)) = true := by kernel_rfl
theorem take_out_all : ((List.range 256).all fun c => (List.range 8).all fun x => !bit c x || (Go.bits .andNot .i64 c (shl .i64 1 x) == c - shl .i64 1 x && decide (shl .i64 1 (x : Int) ≤ c) && decide (0 < shl .i64 1 (x : Int)))) = true := by kernel_rfl
theorem one_of_all : ((List.range 256).all fun c => c == 0 || ((Go.bits .and .i64 c (wrap64 (c - 1)) == 0) == (((V 8).filter (bit c)).length == 1))) = true := by kernel_rfl

theorem pow_eq (s : Int) (h0 : 0 ≤ s) (h8 : s ≤ 8) : shl .i64 1 s = ((2 ^ s.toNat : Nat) : Int) ∧ 1 ≤ shl .i64 1 s ∧ shl .i64 1 s ≤ 256 := by
  have h := List.all_eq_true.1 pow_all s.toNat (List.mem_range.2 (by omega))
  rw [Int.toNat_of_nonneg h0, beq_iff_eq] at h
  have h1 : 2 ^ s.toNat ≤ 2 ^ 8 := Nat.pow_le_pow_right (by decide) (by omega)
  have h2 : 0 < 2 ^ s.toNat := Nat.pow_pos (by decide)
  refine ⟨h, ?_, ?_⟩ <;> omega
theorem take_out (c x : Int) (h : M8 c) (x0 : 0 ≤ x) (x8 : x < 8) (hb : bit c x = true) : Go.bits .andNot .i64 c (shl .i64 1 x) = c - shl .i64 1 x ∧ shl .i64 1 x ≤ c ∧ 0 < shl .i64 1 x := by
  have h' := List.all_eq_true.1 (List.all_eq_true.1 take_out_all c.toNat (List.mem_range.2 (by omega))) x.toNat (List.mem_range.2 (by omega))
  rw [Int.toNat_of_nonneg x0, Int.toNat_of_nonneg h.1, hb, Bool.not_true, Bool.false_or, Bool.and_eq_true, Bool.and_eq_true, beq_iff_eq, decide_eq_true_eq, decide_eq_true_eq] at h'
  exact ⟨h'.1.1, h'.1.2, h'.2⟩
theorem one_of (c : Int) (h0 : 0 < c) (h1 : c < 256) : Go.bits .and .i64 c (wrap64 (c - 1)) = 0 ↔ ((V 8).filter (bit c)).length = 1 := by
  have h := List.all_eq_true.1 one_of_all c.toNat (List.mem_range.2 (by omega))
  rw [Int.toNat_of_nonneg (by omega), show (c.toNat == 0) = false by rw [beq_eq_false_iff_ne]; omega, Bool.false_or, beq_iff_eq, Bool.eq_iff_iff, beq_iff_eq, beq_iff_eq] at h
  exact h

/-- A code of a set of the nodes. -/
theorem code_out {s c v : Int} (h0 : 0 ≤ s) (h8 : s ≤ 8) (c0 : 0 ≤ c) (c1 : c < shl .i64 1 s) (hv : s ≤ v) (v8 : v < 64) : bit c v = false := by
  have hp := pow_eq s h0 h8
  rw [bit_i c v c0 (by omega) (by omega) v8]
  refine Nat.testBit_lt_two_pow (Nat.lt_of_lt_of_le (show c.toNat < 2 ^ s.toNat by omega) (Nat.pow_le_pow_right (by decide) (by omega)))
theorem code_isM {s c : Int} (h0 : 0 ≤ s) (h8 : s ≤ 8) (c0 : 0 ≤ c) (c1 : c < shl .i64 1 s) : IsM s (bit c) c := by
  have hp := pow_eq s h0 h8
  refine ⟨⟨c0, by omega⟩, fun v v0 v1 => ?_⟩
  by_cases hv : v < s
  · rw [decide_eq_true hv, Bool.true_and]
  · rw [code_out h0 h8 c0 c1 (by omega) (by omega), Bool.and_false]
theorem code_set {s c : Int} (h0 : 0 ≤ s) (h8 : s ≤ 8) (c0 : 0 ≤ c) (c1 : c < shl .i64 1 s) : (V 8).filter (bit c) = (V s).filter (bit c) := by
  refine up_ext (filter_up (V_up _) _) (filter_up (V_up _) _) (fun x => ?_)
  rw [mem_VF, mem_VF]
  constructor
  · rintro ⟨h1, h2⟩
    refine ⟨⟨h1.1, ?_⟩, h2⟩
    by_cases hx : x < s
    · exact hx
    · rw [code_out h0 h8 c0 c1 (by omega) (by omega)] at h2
      exact Bool.noConfusion h2
  · rintro ⟨h1, h2⟩
    exact ⟨by omega, h2⟩

/-- What a table a tells for the code c. -/
noncomputable def val (s : Int) (l : List S82) (a : List Int) (c : Int) : Int :=
  (corn s l (bit c)).foldl (fun z x => wrap64 (z + rd a (c - shl .i64 1 x))) (if (((V s).filter (bit c)).length : Int) = 1 then 1 else 0)

theorem fold_congr {f g : Int → Int → Int} : ∀ (L : List Int) (z : Int), (∀ x ∈ L, ∀ z, f z x = g z x) → L.foldl f z = L.foldl g z
  | [], _, _ => rfl
  | x :: L, z, h => by
    rw [List.foldl_cons, List.foldl_cons, h x List.mem_cons_self z]
    exact fold_congr L _ (fun y hy => h y (List.mem_cons_of_mem _ hy))
theorem corn_bit {s : Int} {l : List S82} {c x : Int} (hx : x ∈ corn s l (bit c)) : (0 ≤ x ∧ x < s) ∧ bit c x = true := by
  unfold corn at hx
  rw [mem_VF, Bool.and_eq_true] at hx
  exact ⟨hx.1, hx.2.1⟩
theorem val_congr {s : Int} {l : List S82} {a b : List Int} {c : Int} (h8 : s ≤ 8) (hc : M8 c) (h : ∀ j : Int, 0 ≤ j → j < c → rd a j = rd b j) : val s l a c = val s l b c := by
  unfold val
  refine fold_congr _ _ (fun x hx z => ?_)
  have hb := corn_bit hx
  have ht := take_out c x hc hb.1.1 (by omega) hb.2
  rw [h (c - shl .i64 1 x) (by omega) (by omega)]

/-- A table of all codes below n. -/
def Tab (s : Int) (l : List S82) (a : List Int) (n : Int) : Prop := rd a 0 = 0 ∧ ∀ c : Int, 1 ≤ c → c < n → rd a c = val s l a c
theorem tab_one {s : Int} {l : List S82} {a b : List Int} {n : Int} (h8 : s ≤ 8) (hn : n ≤ 256) (ha : Tab s l a n) (hb : Tab s l b n) : ∀ c : Int, 0 ≤ c → c < n → rd a c = rd b c := by
  intro c c0 c1
  obtain ⟨d, hd⟩ : ∃ d : Nat, c = d := ⟨c.toNat, by omega⟩
  induction d using Nat.strongRecOn generalizing c with
  | _ d ih =>
    by_cases hz : c = 0
    · rw [hz, ha.1, hb.1]
    · rw [ha.2 c (by omega) c1, hb.2 c (by omega) c1]
      exact val_congr h8 ⟨c0, by omega⟩ (fun j j0 j1 => ih j.toNat (by omega) j j0 (by omega) (by omega))

theorem rd_app (a : List Int) (v : Int) (j : Int) (j0 : 0 ≤ j) : rd (a ++ [v]) j = if j = a.length then v else rd a j := by
  unfold rd
  rw [List.getD_eq_getElem?_getD, List.getD_eq_getElem?_getD]
  by_cases h : j < a.length
  · rw [if_neg (by omega), List.getElem?_append_left (by omega)]
  · by_cases e : j = a.length
    · rw [if_pos e, List.getElem?_append_right (by omega), show j.toNat - a.length = 0 by omega]
      rfl
    · rw [if_neg e, List.getElem?_append_right (by omega), List.getElem?_eq_none (by simp; omega), List.getElem?_eq_none (by omega)]

theorem count_spec (s : Int) (l : List S82) (hl : l.length ≤ 1048576) (hG : Gr.Good s l) : Cm (fun k => spec_CountDismantlings.l0 k [0] 1 s l) (fun r => ∃ a, Tab s l a (shl .i64 1 s) ∧ r = (rd a (shl .i64 1 s - 1), true)) := by
  have h8 := hG.2.1
  have h0 := hG.1
  have hp := pow_eq s h0 h8
  refine Cm.up (fun k i a => spec_CountDismantlings.l0 k a i s l) (shl .i64 1 s) (fun i a => 1 ≤ i ∧ (a.length : Int) = i ∧ Tab s l a i) _ ?_ 1 [0] (by omega) ⟨by omega, by simp, rfl, fun c h1 h2 => by omega⟩
  rintro i a hi ⟨i1, hal, ht⟩ ih
  by_cases h : i < shl .i64 1 s
  · refine Cm.step (fun k => by simp (disch := omega) only [spec_CountDismantlings.l0, if_pos h0, if_pos h]; try rfl) ?_
    refine Cm.bindE (bits_ev s i h0 h8) ?_
    have fin : Cm (fun k => spec_CountDismantlings.j1 k a i ((V s).filter (bit i)) (if (((V s).filter (bit i)).length : Int) = 1 then 1 else 0) s l) (fun r => ∃ a, Tab s l a (shl .i64 1 s) ∧ r = (rd a (shl .i64 1 s - 1), true)) := by
      refine Cm.step (fun k => by simp only [spec_CountDismantlings.j1]; try rfl) ?_
      refine Cm.bindE (corners_spec s l hl hG (bit i)) ?_
      have hcl : (corn s l (bit i)).length ≤ s.toNat := VF_len
      have hfin : ∀ b : List Int, b = corn s l (bit i) → b.foldl (fun z x => wrap64 (z + rd a (i - shl .i64 1 x))) (if (((V s).filter (bit i)).length : Int) = 1 then 1 else 0) = val s l a i := fun b hb => by rw [hb]; rfl
      obtain ⟨B, hB⟩ : ∃ B, B = corn s l (bit i) := ⟨_, rfl⟩
      have hm : ∀ x ∈ B, (0 ≤ x ∧ x < s) ∧ bit i x = true := fun x hx => corn_bit (hB ▸ hx)
      rw [← hB] at hcl ⊢
      have hf := hfin B hB
      refine Cm.up (fun k j z => spec_CountDismantlings.l1 k a i z B j s l) B.length (fun j z => 0 ≤ j ∧ z = (B.take j.toNat).foldl (fun z x => wrap64 (z + rd a (i - shl .i64 1 x))) (if (((V s).filter (bit i)).length : Int) = 1 then 1 else 0)) _ ?_ 0 _ (by omega) ⟨by omega, rfl⟩
      rintro j z hj ⟨j0, rfl⟩ ih2
      by_cases h2 : j < (B.length : Int)
      · have hx := hm _ (rd_mem B j j0 h2)
        have hto := take_out i (rd B j) ⟨by omega, by omega⟩ hx.1.1 (by omega) hx.2
        refine Cm.step (fun k => by simp (disch := omega) only [spec_CountDismantlings.l1, if_pos h2, if_pos j0, w64 (j + 1), w64 (i - shl .i64 1 (rd B j))]; try rfl) ?_
        refine Cm.pos hx.1.1 (Cm.pos (by omega) (Cm.pos (by omega) (ih2 _ h2 ⟨by omega, ?_⟩)))
        rw [take_rd B j j0 h2, List.foldl_append]
        rfl
      · rw [take_all B j (by omega), hf]
        refine Cm.step (fun k => by simp (disch := omega) only [spec_CountDismantlings.l1, if_neg h2, w64 (i + 1), if_pos]; try rfl) (ih _ h ⟨by omega, by simp; omega, ?_, fun c c1 c2 => ?_⟩)
        · rw [rd_app a _ 0 (by omega), if_neg (by omega)]
          exact ht.1
        · have hv : val s l (a ++ [val s l a i]) c = val s l a c := val_congr h8 ⟨by omega, by omega⟩ (fun j j0 j1 => by rw [rd_app a _ j j0, if_neg (by omega)])
          rw [rd_app a _ c (by omega), hv]
          by_cases hc : c = a.length
          · rw [if_pos hc, show c = i by omega]
          · rw [if_neg hc]
            exact ht.2 c c1 (by omega)
    refine Cm.ite (fun c => ?_) (fun c => ?_)
    · rw [if_pos c] at fin
      exact fin
    · rw [if_neg c] at fin
      exact fin
  · refine Cm.step (fun k => by simp (disch := omega) only [spec_CountDismantlings.l0, if_pos h0, if_neg h, w64 ((a.length : Int) - 1)]; try rfl) (Cm.pos (by omega) (Cm.pos (by omega) (Cm.now ⟨a, ?_, ?_⟩)))
    · rw [show shl .i64 1 s = i by omega]
      exact ht
    · rw [show shl .i64 1 s = i by omega, hal]

theorem val_one {s : Int} {l : List S82} {c : Int} (h : ((V s).filter (bit c)).length = 1) (a : List Int) : val s l a c = 1 := by
  obtain ⟨x, hx⟩ := List.length_eq_one_iff.1 h
  have hn : corn s l (bit c) = [] := by
    cases hc : corn s l (bit c) with
    | nil => rfl
    | cons y t =>
      have hy : y ∈ corn s l (bit c) := by rw [hc]; exact List.mem_cons_self
      unfold corn at hy
      rw [mem_VF, Bool.and_eq_true] at hy
      obtain ⟨z, t', hz⟩ := hasC_iff.1 hy.2.2
      have hC : Cov s l (bit c) y z := mem_covs.1 (by rw [hz]; exact List.mem_cons_self)
      have h1 : y ∈ (V s).filter (bit c) := mem_VF.2 ⟨hy.1, hy.2.1⟩
      have h2 : z ∈ (V s).filter (bit c) := mem_VF.2 ⟨hC.2.1, hC.2.2.1⟩
      rw [hx, List.mem_singleton] at h1 h2
      exact (hC.1 (h1.trans h2.symm)).elim
  unfold val
  rw [hn, if_pos (by omega)]
  rfl

theorem count_impl (s : Int) (l : List S82) (hG : Gr.Good s l) (r : List Int) (hN : Net s l r) : Cm (fun k => impl_CountDismantlings.l0 k (List.replicate (shl .i64 1 s : Int).toNat 0) 1 r) (fun z => ∃ a, Tab s l a (shl .i64 1 s) ∧ z = (rd a (shl .i64 1 s - 1), true)) := by
  have h8 := hG.2.1
  have h0 := hG.1
  have hp := pow_eq s h0 h8
  have hrep : ∀ j : Int, rd (List.replicate (shl .i64 1 s : Int).toNat 0) j = 0 := fun j => by
    unfold rd
    rw [List.getD_eq_getElem?_getD, List.getElem?_replicate]
    split <;> rfl
  refine Cm.up (fun k i a => impl_CountDismantlings.l0 k a i r) (shl .i64 1 s) (fun i a => 1 ≤ i ∧ (a.length : Int) = shl .i64 1 s ∧ Tab s l a i ∧ ∀ j : Int, i ≤ j → rd a j = 0) _ ?_ 1 _ (by omega) ⟨by omega, by rw [List.length_replicate]; omega, ⟨hrep 0, fun c h1 h2 => by omega⟩, fun j _ => hrep j⟩
  rintro i a hi ⟨i1, hal, ht, hz⟩ ih
  by_cases h : i < shl .i64 1 s
  · -- what the cell i is set to
    have go : ∀ b : List Int, b.length = a.length → rd b i = val s l a i → (∀ j : Int, 0 ≤ j → j ≠ i → rd b j = rd a j) → Cm (fun k => impl_CountDismantlings.l0 k b (i + 1) r) (fun z => ∃ a, Tab s l a (shl .i64 1 s) ∧ z = (rd a (shl .i64 1 s - 1), true)) := fun b hb1 hb2 hb3 => by
      refine ih b h ⟨by omega, by omega, ⟨by rw [hb3 0 (by omega) (by omega)]; exact ht.1, fun c c1 c2 => ?_⟩, fun j hj => by rw [hb3 j (by omega) (by omega)]; exact hz j (by omega)⟩
      rw [val_congr (b := a) h8 ⟨by omega, by omega⟩ (fun j j0 j1 => hb3 j j0 (by omega))]
      by_cases hc : c = i
      · rw [hc, hb2]
      · rw [hb3 c (by omega) hc]
        exact ht.2 c c1 (by omega)
    refine Cm.step (fun k => by simp (disch := omega) only [impl_CountDismantlings.l0, hal, if_pos h, w64 (i + 1)]; try rfl) ?_
    refine Cm.ite (fun c => Cm.pos (by omega) (go _ (by simp) ?_ (fun j j0 hj => by rw [rd_set a i j 1 (by omega) (by omega) j0, if_neg (Ne.symm hj)]))) (fun c => ?_)
    · rw [rd_set a i i 1 (by omega) (by omega) (by omega), if_pos rfl]
      rw [one_of i (by omega) (by omega), code_set h0 h8 (by omega) h] at c
      exact (val_one c a).symm
    · rw [one_of i (by omega) (by omega), code_set h0 h8 (by omega) h] at c
      refine Cm.bindE (corners_impl s l hG r hN (bit i) i (code_isM h0 h8 (by omega) h)) ?_
      have hcl : (corn s l (bit i)).length ≤ s.toNat := VF_len
      have hf : (corn s l (bit i)).foldl (fun z x => wrap64 (z + rd a (i - shl .i64 1 x))) 0 = val s l a i := by
        unfold val
        rw [if_neg (by omega)]
      obtain ⟨B, hB⟩ : ∃ B, B = corn s l (bit i) := ⟨_, rfl⟩
      have hm : ∀ x ∈ B, (0 ≤ x ∧ x < s) ∧ bit i x = true := fun x hx => corn_bit (hB ▸ hx)
      rw [← hB] at hcl hf ⊢
      clear hB
      refine Cm.up (fun k j b => impl_CountDismantlings.l1 k b i B B.length j r) B.length (fun j b => 0 ≤ j ∧ b.length = a.length ∧ rd b i = (B.take j.toNat).foldl (fun z x => wrap64 (z + rd a (i - shl .i64 1 x))) 0 ∧ ∀ t : Int, 0 ≤ t → t ≠ i → rd b t = rd a t) _ ?_ 0 a (by omega) ⟨by omega, rfl, hz i (by omega), fun _ _ _ => rfl⟩
      rintro j b hj ⟨j0, hb1, hb2, hb3⟩ ih2
      by_cases h2 : j < (B.length : Int)
      · have hx := hm _ (rd_mem B j j0 h2)
        have hto := take_out i (rd B j) ⟨by omega, by omega⟩ hx.1.1 (by omega) hx.2
        refine Cm.step (fun k => by simp (disch := omega) only [impl_CountDismantlings.l1, if_pos h2, if_pos j0, w64 (j + 1), hto.1]; try rfl) ?_
        refine Cm.pos (by omega) (Cm.pos (by omega) (Cm.pos hx.1.1 (Cm.pos (by omega) (Cm.pos (by omega) (ih2 _ h2 ⟨by omega, by simpa using hb1, ?_, fun t t0 ht => ?_⟩)))))
        · rw [rd_set b i i _ (by omega) (by omega) (by omega), if_pos rfl, hb2, hb3 _ (by omega) (by omega), take_rd B j j0 h2, List.foldl_append]
          rfl
        · rw [rd_set b i t _ (by omega) (by omega) t0, if_neg (Ne.symm ht)]
          exact hb3 t t0 ht
      · rw [take_all B j (by omega), hf] at hb2
        exact Cm.step (fun k => by simp (disch := omega) only [impl_CountDismantlings.l1, if_neg h2, w64 (i + 1)]; try rfl) (go b hb1 hb2 hb3)
  · refine Cm.step (fun k => by simp (disch := omega) only [impl_CountDismantlings.l0, hal, if_neg h]; try rfl) ?_
    unfold impl_net_all.f
    rw [hN.1.1]
    refine Cm.bindE (sz_ev rfl) (Cm.pos ?_ (Cm.pos ?_ (Cm.now ⟨a, ?_, ?_⟩)))
    · rw [w64 (shl .i64 1 s - 1) (by omega) (by omega)]; omega
    · rw [w64 (shl .i64 1 s - 1) (by omega) (by omega)]; omega
    · rw [show shl .i64 1 s = i by omega]
      exact ht
    · rw [w64 (shl .i64 1 s - 1) (by omega) (by omega)]

theorem both (s : Int) (l : List S82) (hl : l.length ≤ 1048576) : ∃ r b, Ev (fun k => spec_CountDismantlings.f k s l) (r, b) ∧ Ev (fun k => impl_CountDismantlings.f k s l) (r, b) := by
  obtain ⟨b, hb, hS, hI⟩ := isGraph_full s l hl
  have hSo := some_ev s l b hS
  have iJ : Cm (fun k => impl_CountDismantlings.j0 k true s l) (fun z => z = (0, false)) := Cm.step (fun k => by simp only [impl_CountDismantlings.j0, if_true]; try rfl) (Cm.now rfl)
  by_cases hc : b = true ∧ s > 0
  · obtain ⟨rfl, hs⟩ := hc
    obtain ⟨hG, hO⟩ := hb rfl
    have h8 := hG.2.1
    have h0 := hG.1
    have hp := pow_eq s h0 h8
    obtain ⟨r, hr, hbit, hN⟩ := net_ev s l hl hG
    obtain ⟨z1, e1, a, ta, rfl⟩ := count_spec s l hl hG
    obtain ⟨z2, e2, a2, ta2, rfl⟩ := count_impl s l hG r ⟨hr, hbit⟩
    rw [← tab_one h8 (by omega) ta ta2 _ (by omega) (by omega)] at e2
    rw [Bool.true_and, decide_eq_true hs] at hSo
    refine ⟨_, true, Cm.ev (Cm.bindE hSo (Cm.pos rfl (Ev.cm e1))), Cm.ev ?_⟩
    refine Cm.bindE hI (Cm.pos rfl ?_)
    have hz : (s == 0) = false := by rw [beq_eq_false_iff_ne]; omega
    rw [hz]
    refine Cm.step (fun k => by simp only [impl_CountDismantlings.j0, Bool.false_eq_true, if_false]; try rfl) ?_
    exact Cm.bindE hN (Cm.pos h0 (Cm.pos (by omega) (Cm.pos (by omega) (Ev.cm e2))))
  · have hf : (b && decide (s > 0)) = false := by
      rw [Bool.and_eq_false_iff]
      by_cases hb' : b = true
      · exact .inr (decide_eq_false (fun h => hc ⟨hb', h⟩))
      · exact .inl (Bool.eq_false_iff.2 hb')
    rw [hf] at hSo
    refine ⟨0, false, Cm.ev ?_, Cm.ev ?_⟩
    · exact Cm.bindE hSo (Cm.neg (by decide) (Cm.now rfl))
    · refine Cm.bindE hI (Cm.ite (fun e => ?_) (fun _ => iJ))
      have hz : (s == 0) = true := by rw [beq_iff_eq]; have := (hb e).1.1; have h5 : ¬ s > 0 := fun h => hc ⟨e, h⟩; omega
      rw [hz]
      exact iJ

theorem FnExactCountDismantlings : laws_FnExactCountDismantlings.Pure := by
  intro s0 l0 hs0 hl0 hx0
  refine Ev.rounds (Cm.ev ?_)
  unfold laws_FnExactCountDismantlings.f
  by_cases c0 : (1048576 : Int) - l0.length < 0
  · exact Cm.bindE (sz_ev (sz_big s0 l0 hl0 c0)) (Cm.pos (by decide) (Cm.now rfl))
  refine Cm.bindE (sz_ev (sz_small s0 l0 (by omega))) (Cm.neg c0 ?_)
  obtain ⟨r, b, E1, E2⟩ := both s0 l0 (by omega)
  have a_b : ¬ (b != b) = true := by cases b <;> decide
  repeat first
    | with_reducible exact Cm.now rfl
    | refine Cm.bindE (toGraph_ev s0 l0 (by omega)) ?_
    | refine Cm.bindE E1 ?_
    | refine Cm.bindE E2 ?_
    | refine Cm.bindE (eqGraph_ev s0 l0 (by omega)) (Cm.pos rfl ?_)
    | refine Cm.neg a_b ?_
    | refine Cm.neg (by omega) ?_
    | refine Cm.pos (by omega) ?_
    | refine Cm.pos rfl ?_
    | dsimp only

end Go.Proofs.Ytbnhckhbjoldcaa.Pure
