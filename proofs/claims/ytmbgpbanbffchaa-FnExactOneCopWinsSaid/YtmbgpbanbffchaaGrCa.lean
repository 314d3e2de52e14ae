/- The best start of the cop by a table of times, by both; no conditions beyond those that each theorem names. -/
import Derived.Test.YtmbgpbanbffchaaGrCs
import Derived.Test.YtmbgpbanbffchaaGrCt
import Derived.Test.YtmbgpbanbffchaaPxImplNetBestCop
import Derived.Test.YtmbgpbanbffchaaPxSlicesA
import Derived.Test.YtmbgpbanbffchaaPxSpecCaptureTime
import Derived.Test.YtmbgpbanbffchaaPxSpecL3A
namespace Go.Proofs.Ytmbgpbanbffchaa.Gr
open Go.RowKit Go.Proofs.Ytmbgpbanbffchaa.P Go.Proofs.YtmbgpbanbffchaaW.PrintWords Go.Proofs.YtmbgpbanbffchaaW.PrintLast Go.Proofs.YtmbgpbanbffchaaW.PrintMore

/-- The greatest time of a start, or -1. -/
def stOf (s : Int) (Z : Int → Int → Int) (c : Int) : Int := worst (Z c) (V s) 0

theorem worst_map {f : Int → Int} : ∀ (L : List Int) (m : Int), worst (fun x => x) (L.map f) m = worst f L m
  | [], _ => rfl
  | y :: L, m => by
    rw [List.map_cons]
    unfold worst
    by_cases h : f y < 0
    · rw [if_pos h, if_pos h]
    · rw [if_neg h, if_neg h]
      exact worst_map L _

theorem start_ev (s : Int) (h0 : 0 ≤ s) (h8 : s ≤ 8) (Z : Int → Int → Int) (c : Int) (hc : 0 ≤ c ∧ c < s) : Ev (fun k => spec_l3Start.f k (mk s Z) c) (stOf s Z c) := by
  refine Cm.ev ?_
  unfold spec_l3Start.f stOf
  have hml : ((mk s Z).length : Int) = s := by rw [mk_len, Int.toNat_of_nonneg h0]
  have hrow := rowL Z c hc
  have hrl : (((V s).map (Z c)).length : Int) = s := by rw [mapV_len, Int.toNat_of_nonneg h0]
  have hvl : ((V s).length : Int) = s := by rw [V_len, Int.toNat_of_nonneg h0]
  refine Cm.up (fun k i b => spec_l3Start.l0 k (mk s Z) c b i) s (fun i b => 0 ≤ i ∧ worst (Z c) ((V s).drop i.toNat) b = worst (Z c) (V s) 0) _ ?_ 0 0 h0 ⟨by omega, rfl⟩
  rintro i b hi ⟨i0, hw⟩ ih
  by_cases h : i < s
  · have hrd := rd_mapV s (Z c) i i0 h
    have hdr := drop_rd (V s) i i0 (by omega)
    have hvi : rd (V s) i = i := by
      have := rd_mapV s (fun x => x) i i0 h
      rwa [List.map_id'] at this
    rw [hvi] at hdr
    rw [hdr] at hw
    by_cases hn : Z c i < 0
    · refine Cm.step (fun k => by simp only [spec_l3Start.l0, hml, if_pos h, if_pos hc.1, if_pos hc.2, if_pos i0, hrow, hrl, hrd, if_pos hn]; try rfl) (Cm.now ?_)
      rw [← hw]
      simp only [worst, if_pos hn]
    · refine Cm.step (fun k => by simp (disch := omega) only [spec_l3Start.l0, hml, if_pos h, if_pos hc.1, if_pos hc.2, if_pos i0, hrow, hrl, hrd, if_neg hn, most_eq, Option.bind_some, w64 (i + 1)]; try rfl) (ih _ h ⟨by omega, ?_⟩)
      rw [← hw]
      simp only [worst, if_neg hn]
  · rw [List.drop_of_length_le (by omega)] at hw
    exact Cm.step (fun k => by simp only [spec_l3Start.l0, hml, if_neg h]; try rfl) (Cm.now hw)

theorem max_ev (L : List Int) (hl : L.length ≤ 1000) (hne : 0 < L.length) (hp : ∀ y, y ∈ L → 0 ≤ y) : Ev (fun k => slices_Max_int_int.f k L) (worst (fun x => x) L 0) := by
  refine Cm.ev ?_
  unfold slices_Max_int_int.f
  refine Cm.neg (by omega) (Cm.pos (by omega) ?_)
  have hfirst : L.drop (0 : Int).toNat = rd L 0 :: L.drop (0 + 1 : Int).toNat := drop_rd L 0 (by omega) (by omega)
  have h00 := hp _ (rd_mem L 0 (by omega) (by omega))
  have hL : L = rd L 0 :: L.drop 1 := hfirst
  have hstart : worst (fun x => x) (L.drop (1 : Int).toNat) (rd L 0) = worst (fun x => x) L 0 := by
    conv => rhs; rw [hL]
    simp only [worst]
    rw [if_neg (by omega)]
    by_cases e : 0 < rd L 0
    · rw [if_pos e]; rfl
    · rw [if_neg e, show rd L 0 = 0 by omega]; rfl
  refine Cm.up (fun k i b => slices_Max_int_int.l0 k L b i) L.length (fun i b => 1 ≤ i ∧ worst (fun x => x) (L.drop i.toNat) b = worst (fun x => x) L 0) _ ?_ 1 (rd L 0) (by omega) ⟨by omega, hstart⟩
  rintro i b hi ⟨i0, hw⟩ ih
  by_cases h : i < (L.length : Int)
  · rw [drop_rd L i (by omega) h] at hw
    have hy := hp _ (rd_mem L i (by omega) h)
    refine Cm.step (fun k => by simp (disch := omega) only [slices_Max_int_int.l0, if_pos h, if_pos (show 0 ≤ i by omega), w64 (i + 1)]; try rfl) (ih _ h ⟨by omega, ?_⟩)
    rw [← hw]
    simp only [worst]
    rw [if_neg (by omega)]
    rfl
  · rw [List.drop_of_length_le (by omega)] at hw
    exact Cm.step (fun k => by simp only [slices_Max_int_int.l0, if_neg h]; try rfl) (Cm.now hw)

/-- The best start among the first n nodes, or -1. -/
def bst (st : Int → Int) : Nat → Int
  | 0 => -1
  | n + 1 => if 0 ≤ st n ∧ (bst st n < 0 ∨ st n < st (bst st n)) then n else bst st n
theorem bst_in (st : Int → Int) : ∀ n : Nat, bst st n < 0 ∨ (0 ≤ bst st n ∧ bst st n < n)
  | 0 => .inl (by unfold bst; omega)
  | n + 1 => by
    unfold bst
    by_cases h : 0 ≤ st n ∧ (bst st n < 0 ∨ st n < st (bst st n))
    · rw [if_pos h]; exact .inr (by omega)
    · rw [if_neg h]
      rcases bst_in st n with h | h
      · exact .inl h
      · exact .inr (by omega)
theorem bst_next (st : Int → Int) (i : Int) (h : 0 ≤ i) : bst st (i + 1).toNat = if 0 ≤ st i ∧ (bst st i.toNat < 0 ∨ st i < st (bst st i.toNat)) then i else bst st i.toNat := by
  rw [show (i + 1).toNat = i.toNat + 1 by omega]
  have e : ((i.toNat : Nat) : Int) = i := Int.toNat_of_nonneg h
  conv => lhs; unfold bst
  rw [e]

/-- What both say of the best start. -/
def capt (s : Int) (Z : Int → Int → Int) : Int × Int × Bool := if bst (stOf s Z) s.toNat < 0 then (0, 0, false) else (bst (stOf s Z) s.toNat, stOf s Z (bst (stOf s Z) s.toNat), true)

theorem capt_spec (s : Int) (l : List S75) (h0 : 0 ≤ s) (h8 : s ≤ 8) (Z : Int → Int → Int) : Ev (fun k => spec_CaptureTime.l0 k (mk s Z) (-1) 0 s l) (capt s Z) := by
  refine Cm.ev ?_
  refine Cm.up (fun k i b => spec_CaptureTime.l0 k (mk s Z) b i s l) s (fun i b => 0 ≤ i ∧ b = bst (stOf s Z) i.toNat) _ ?_ 0 (-1) h0 ⟨by omega, rfl⟩
  rintro i b hi ⟨i0, rfl⟩ ih
  have hst := fun c hc => start_ev s h0 h8 Z c hc
  have hin := bst_in (stOf s Z) i.toNat
  have hnx := bst_next (stOf s Z) i i0
  obtain ⟨st, hs⟩ : ∃ st, st = stOf s Z := ⟨_, rfl⟩
  have hcap : capt s Z = if bst st s.toNat < 0 then (0, 0, false) else (bst st s.toNat, st (bst st s.toNat), true) := by rw [hs]; rfl
  rw [hcap]
  rw [← hs] at hst hin hnx ih ⊢
  rw [hcap] at ih
  clear hcap hs
  obtain ⟨b, hb⟩ : ∃ b, b = bst st i.toNat := ⟨_, rfl⟩
  rw [← hb] at hin hnx ⊢
  by_cases h : i < s
  · refine Cm.step (fun k => by simp (disch := omega) only [spec_CaptureTime.l0, if_pos h, w64 (i + 1)]; try rfl) ?_
    refine Cm.bindE (hst i ⟨i0, h⟩) ?_
    have hyes : (0 ≤ st i ∧ (b < 0 ∨ st i < st b)) → 0 ≤ i + 1 ∧ i = bst st (i + 1).toNat := fun hh => ⟨by omega, by rw [hnx, if_pos hh]⟩
    have hnot : ¬ (0 ≤ st i ∧ (b < 0 ∨ st i < st b)) → 0 ≤ i + 1 ∧ b = bst st (i + 1).toNat := fun hh => ⟨by omega, by rw [hnx, if_neg hh]⟩
    refine Cm.ite (fun e => ?_) (fun e => ih _ h (hnot (fun hh => e hh.1)))
    refine Cm.ite (fun e2 => ih _ h (hyes ⟨e, .inl e2⟩)) (fun e2 => ?_)
    refine Cm.bindE (hst b ⟨by omega, by omega⟩) ?_
    exact Cm.ite (fun e3 => ih _ h (hyes ⟨e, .inr e3⟩)) (fun e3 => ih _ h (hnot (fun hh => hh.2.elim e2 e3)))
  · refine Cm.step (fun k => by simp only [spec_CaptureTime.l0, if_neg h]; try rfl) ?_
    have e : i = s := by omega
    rw [e] at hb
    rw [← hb]
    refine Cm.ite (fun e2 => Cm.now ?_) (fun e2 => Cm.bindE (hst b ⟨by omega, by omega⟩) (Cm.now ?_))
    · rw [if_pos e2]
    · rw [if_neg e2]

theorem capt_impl (s : Int) (l : List S75) (h0 : 0 ≤ s) (h8 : s ≤ 8) (N : Int) (Z : Int → Int → Int) (hZ : Tim s (Bl s l) N Z) : Ev (fun k => impl_net_bestCop.l0 k 0 0 false (mk s Z) (mk s Z).length 0) (capt s Z) := by
  refine Cm.ev ?_
  have hml : ((mk s Z).length : Int) = s := by rw [mk_len, Int.toNat_of_nonneg h0]
  rw [hml]
  have hcap : capt s Z = if bst (stOf s Z) s.toNat < 0 then (0, 0, false) else (bst (stOf s Z) s.toNat, stOf s Z (bst (stOf s Z) s.toNat), true) := rfl
  have hcon : ∀ c, 0 ≤ c ∧ c < s → Ev (fun k => slices_Contains_int_int.f k ((V s).map (Z c)) (-1)) (decide (stOf s Z c < 0)) := fun c hc => by
    have h := contains_ev ((V s).map (Z c)) (-1) (by rw [mapV_len]; omega)
    have e : decide ((-1 : Int) ∈ (V s).map (Z c)) = decide (stOf s Z c < 0) := by
      rw [decide_eq_decide, List.mem_map]
      unfold stOf
      constructor
      · rintro ⟨r, hr, hz⟩
        rw [worst_neg _ _ ⟨r, hr, by omega⟩]
        omega
      · intro hh
        have hex : ∃ r, r ∈ V s ∧ Z c r < 0 := Classical.byContradiction (fun hn => by
          have := (worst_iff (f := Z c) (L := V s) (Int.le_refl 0)).2 (fun r hr hz => hn ⟨r, hr, hz⟩)
          omega)
        obtain ⟨r, hr, hz⟩ := hex
        have := (hZ.a c r hc (mem_V.1 hr)).1
        exact ⟨r, hr, by omega⟩
    rwa [e] at h
  have hmax : ∀ c, 0 ≤ c ∧ c < s → 0 ≤ stOf s Z c → Ev (fun k => slices_Max_int_int.f k ((V s).map (Z c))) (stOf s Z c) := fun c hc hp => by
    have hall := (worst_iff (f := Z c) (L := V s) (Int.le_refl 0)).1 hp
    have h := max_ev ((V s).map (Z c)) (by rw [mapV_len]; omega) (by rw [mapV_len]; omega) (fun y hy => by
      obtain ⟨r, hr, rfl⟩ := List.mem_map.1 hy
      have := hall r hr
      omega)
    rwa [worst_map] at h
  obtain ⟨st, hs⟩ : ∃ st, st = stOf s Z := ⟨_, rfl⟩
  rw [← hs] at hcap hcon hmax
  rw [hcap]
  refine Cm.up (fun k i (z : Int × Int × Bool) => impl_net_bestCop.l0 k z.1 z.2.1 z.2.2 (mk s Z) s i) s (fun i z => 0 ≤ i ∧ z = if bst st i.toNat < 0 then (0, 0, false) else (bst st i.toNat, st (bst st i.toNat), true)) _ ?_ 0 (0, 0, false) h0 ⟨by omega, rfl⟩
  rintro i z hi ⟨i0, rfl⟩ ih
  have hnx := bst_next st i i0
  obtain ⟨b, hb⟩ : ∃ b, b = bst st i.toNat := ⟨_, rfl⟩
  rw [← hb] at hnx ⊢
  by_cases h : i < s
  · have hrow := rowL Z i ⟨i0, h⟩
    have hyes : (0 ≤ st i ∧ (b < 0 ∨ st i < st b)) → 0 ≤ i + 1 ∧ (i, st i, true) = if bst st (i + 1).toNat < 0 then ((0 : Int), (0 : Int), false) else (bst st (i + 1).toNat, st (bst st (i + 1).toNat), true) := fun hh => ⟨by omega, by rw [hnx, if_pos hh, if_neg (by omega)]⟩
    have hnot : ¬ (0 ≤ st i ∧ (b < 0 ∨ st i < st b)) → 0 ≤ i + 1 ∧ (if b < 0 then ((0 : Int), (0 : Int), false) else (b, st b, true)) = if bst st (i + 1).toNat < 0 then ((0 : Int), (0 : Int), false) else (bst st (i + 1).toNat, st (bst st (i + 1).toNat), true) := fun hh => ⟨by omega, by rw [hnx, if_neg hh]⟩
    by_cases hbn : b < 0
    · rw [if_pos hbn] at hnot ⊢
      refine Cm.step (fun k => by simp (disch := omega) only [impl_net_bestCop.l0, if_pos h, if_pos i0, hml, hrow, w64 (i + 1)]; try rfl) ?_
      refine Cm.bindE (hcon i ⟨i0, h⟩) ?_
      by_cases hn : st i < 0
      · rw [decide_eq_true hn]
        exact Cm.pos rfl (ih _ h (hnot (fun hh => by omega)))
      · rw [decide_eq_false hn]
        exact Cm.neg (by decide) (Cm.bindE (hmax i ⟨i0, h⟩ (by omega)) (Cm.neg (by decide) (ih _ h (hyes ⟨by omega, .inl hbn⟩))))
    · rw [if_neg hbn] at hnot ⊢
      refine Cm.step (fun k => by simp (disch := omega) only [impl_net_bestCop.l0, if_pos h, if_pos i0, hml, hrow, w64 (i + 1)]; try rfl) ?_
      refine Cm.bindE (hcon i ⟨i0, h⟩) ?_
      by_cases hn : st i < 0
      · rw [decide_eq_true hn]
        exact Cm.pos rfl (ih _ h (hnot (fun hh => by omega)))
      · rw [decide_eq_false hn]
        refine Cm.neg (by decide) (Cm.bindE (hmax i ⟨i0, h⟩ (by omega)) (Cm.pos trivial ?_))
        exact Cm.ite (fun e => ih _ h (hyes ⟨by omega, .inr e⟩)) (fun e => ih _ h (hnot (fun hh => hh.2.elim hbn e)))
  · refine Cm.step (fun k => by simp only [impl_net_bestCop.l0, if_neg h]; try rfl) (Cm.now ?_)
    rw [hb, show i = s by omega]

end Go.Proofs.Ytmbgpbanbffchaa.Gr
