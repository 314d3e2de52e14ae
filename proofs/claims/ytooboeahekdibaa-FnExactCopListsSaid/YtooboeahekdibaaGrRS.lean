/- Rows of rows of whole numbers: one is equal to itself, and what is marked is held; no conditions beyond those that each theorem names. -/
import Derived.Test.YtooboeahekdibaaGrI
import Derived.Test.YtooboeahekdibaaGrJ
import Derived.Test.YtooboeahekdibaaGrC
import Derived.Test.YtooboeahekdibaaPxLawB
import Derived.Test.YtooboeahekdibaaPxLawC
namespace Go.Proofs.Ytooboeahekdibaa.Gr
open Go.RowKit Go.Proofs.Ytooboeahekdibaa.P Go.Proofs.YtooboeahekdibaaW.PrintWords Go.Proofs.YtooboeahekdibaaW.PrintLast

theorem mark_heldIm (l : List Int) (m : Int) (hl : l.length ≤ 1048576) (h0 : 0 ≤ m) (hb : m + l.length ≤ 4294967296) : ∃ r : List Int, r.length = l.length ∧ Ev (fun k => laws_markIntS.f k l m) (m + (l.length : Int), r) ∧ Ev (fun k => laws_heldIntS.f k r m) (m + (l.length : Int)) := by
  obtain ⟨r, h1, _, h3, K, hK⟩ := markI_loop l.length l m 0 hl (by omega) (by omega) (by omega) (by omega)
  obtain ⟨K2, hK2⟩ := heldI_loop l.length r m 0 (by omega) (by omega) (by omega) (by omega) (by omega) (fun j a b => h3 j a (by omega))
  exact ⟨r, h1, ⟨K, hK⟩, ⟨K2, hK2⟩⟩

theorem eqSS_loop (l : List (List Int)) (hl : l.length ≤ 1048576) (hr : ∀ x ∈ l, x.length ≤ 1024) : ∀ (d : Nat) (i : Int), 0 ≤ i → (l.length : Int) - i = d → Cm (fun k => laws_eqIntSS.l0 k l l i) (fun z => z = true) := by
  intro d
  induction d with
  | zero =>
    intro i hi hd
    exact Cm.step (fun k => by simp only [laws_eqIntSS.l0, if_neg (show ¬ i < (l.length : Int) by omega)]; try rfl) (Cm.now rfl)
  | succ d ih =>
    intro i hi hd
    have hp : i < (l.length : Int) := by omega
    have hw : wrap64 (i + 1) = i + 1 := by unfold wrap64; omega
    have hx : (rd_L2 l i).length ≤ 1024 := by
      unfold rd_L2
      rw [List.getD_eq_getElem?_getD, List.getElem?_eq_getElem (by omega)]
      exact hr _ (List.getElem_mem _)
    refine Cm.step (fun k => by simp only [laws_eqIntSS.l0, if_pos hp, if_pos hi, hw]; try rfl) ?_
    exact Cm.bindE (eqI_ev (rd_L2 l i) (by omega)) (Cm.pos rfl (ih (i + 1) (by omega) (by omega)))

theorem eqSS_ev (l : List (List Int)) (hl : l.length ≤ 1048576) (hr : ∀ x ∈ l, x.length ≤ 1024) : Ev (fun k => laws_eqIntSS.f k l l) true := by
  refine Cm.ev ?_
  unfold laws_eqIntSS.f
  exact Cm.pos rfl (eqSS_loop l hl hr l.length 0 (by omega) (by omega))

theorem rowAt {l : List (List Int)} {i : Int} (hi : 0 ≤ i) (hp : i < (l.length : Int)) (hr : ∀ x ∈ l, x.length ≤ 1024) : (l.getD i.toNat []).length ≤ 1024 := by
  rw [List.getD_eq_getElem?_getD, List.getElem?_eq_getElem (by omega)]
  exact hr _ (List.getElem_mem _)

theorem markSS_loop : ∀ (d : Nat) (xs : List (List Int)) (m i : Int), xs.length ≤ 1048576 → (∀ x ∈ xs, x.length ≤ 1024) → 0 ≤ i → (xs.length : Int) - i = d → 0 ≤ m → m + d * 1024 ≤ 4294967296 →
    ∃ (r : List (List Int)) (t : Nat), r.length = xs.length ∧ (∀ j : Nat, (j : Int) < i → r[j]? = xs[j]?) ∧ Cm (fun k => laws_markIntSS.l0 k xs i m) (fun z => z = (m + (t : Int), r)) ∧ Cm (fun k => laws_heldIntSS.l0 k r m i) (fun z => z = m + (t : Int)) := by
  intro d
  induction d with
  | zero =>
    intro xs m i hx hr hi hd hm hb
    have hn : ¬ i < (xs.length : Int) := by omega
    refine ⟨xs, 0, rfl, fun _ _ => rfl, Cm.step (fun k => by simp only [laws_markIntSS.l0, if_neg hn]; try rfl) (Cm.now (by simp)), Cm.step (fun k => by simp only [laws_heldIntSS.l0, if_neg hn]; try rfl) (Cm.now (by simp))⟩
  | succ d ih =>
    intro xs m i hx hr hi hd hm hb
    have hp : i < (xs.length : Int) := by omega
    have hw : wrap64 (i + 1) = i + 1 := by unfold wrap64; omega
    have hr0 := rowAt hi hp hr
    obtain ⟨row, h1, e1, e2⟩ := mark_heldIm (xs.getD i.toNat []) m (by omega) hm (by omega)
    obtain ⟨r, t, hl, hs, g1, g2⟩ := ih (xs.set i.toNat row) (m + ((xs.getD i.toNat []).length : Int)) (i + 1) (by rw [List.length_set]; exact hx) (fun x hx2 => by
      rcases List.mem_or_eq_of_mem_set hx2 with h | h
      · exact hr x h
      · rw [h, h1]; exact hr0) (by omega) (by rw [List.length_set]; omega) (by omega) (by omega)
    rw [List.length_set] at hl
    have hat : rd_L2 r i = row := by
      unfold rd_L2
      rw [List.getD_eq_getElem?_getD, hs i.toNat (by omega), List.getElem?_set_self (by omega)]
      rfl
    have hm2 : m + (((xs.getD i.toNat []).length + t : Nat) : Int) = m + ((xs.getD i.toNat []).length : Int) + (t : Int) := by omega
    refine ⟨r, (xs.getD i.toNat []).length + t, hl, fun j hj => by rw [hs j (by omega), List.getElem?_set_ne (by omega)], ?_, ?_⟩
    · refine Cm.step (fun k => by simp only [laws_markIntSS.l0, if_pos hp, hw]; try rfl) ?_
      rw [hm2]
      exact Cm.bindE e1 g1
    · refine Cm.step (fun k => by simp only [laws_heldIntSS.l0, if_pos (show i < (r.length : Int) by omega), if_pos hi, hat, hw]; try rfl) ?_
      rw [hm2]
      exact Cm.bindE e2 (Cm.neg (by omega) g2)

theorem mark_heldSS (l : List (List Int)) (hl : l.length ≤ 1048576) (hr : ∀ x ∈ l, x.length ≤ 1024) : ∃ (r : List (List Int)) (t : Nat), Ev (fun k => laws_markIntSS.f k l 1) (1 + (t : Int), r) ∧ Ev (fun k => laws_heldIntSS.f k r 1) (1 + (t : Int)) := by
  obtain ⟨r, t, _, _, g1, g2⟩ := markSS_loop l.length l 1 0 hl hr (by omega) (by omega) (by omega) (by omega)
  refine ⟨r, t, Cm.ev ?_, Cm.ev g2⟩
  unfold laws_markIntSS.f
  exact Cm.pos hl g1

end Go.Proofs.Ytooboeahekdibaa.Gr
