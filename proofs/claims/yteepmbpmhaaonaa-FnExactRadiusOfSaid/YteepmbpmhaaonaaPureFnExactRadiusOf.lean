/- The pure law FnExactRadiusOf: both find the least number of steps in which one node reaches all. -/
import Derived.Test.YteepmbpmhaaonaaGrRd
import Derived.Test.YteepmbpmhaaonaaGrBl
import Derived.Test.YteepmbpmhaaonaaGrRb
import Derived.Test.YteepmbpmhaaonaaPxImplRadiusOf
import Derived.Test.YteepmbpmhaaonaaPxLawsFnExactRadiusOf
import Derived.Test.YteepmbpmhaaonaaPxSpecL2Whole
import Derived.Test.YteepmbpmhaaonaaPxSpecRadiusOf
namespace Go.Proofs.Yteepmbpmhaaonaa.Pure
open Go.RowKit Go.Proofs.Yteepmbpmhaaonaa.P Go.Proofs.YteepmbpmhaaonaaW.PrintWords Go.Proofs.YteepmbpmhaaonaaW.PrintLast Go.Proofs.YteepmbpmhaaonaaW.PrintMore Go.Proofs.Yteepmbpmhaaonaa.Gr

open Classical in
theorem spec_row (s : Int) (l : List S65) (hl : l.length ≤ 1048576) (hG : Gr.Good s l) (r : Int) (r0 : 0 ≤ r) (Q : Int × Bool → Prop) (h1 : (∃ x, (0 ≤ x ∧ x < s) ∧ Hit s l r.toNat x) → Q (r, true))
    (h2 : (∀ x, 0 ≤ x → x < s → ¬ Hit s l r.toNat x) → Cm (fun k => spec_RadiusOf.l0 k (wrap64 (r + 1)) s l) Q) : Cm (fun k => spec_RadiusOf.l0 k r s l) Q := by
  have h8 := hG.2.1
  have h0 := hG.1
  refine Cm.step (fun k => by simp only [spec_RadiusOf.l0]; try rfl) ?_
  refine Cm.up (fun k x (_ : Unit) => spec_RadiusOf.l1 k r x s l) s (fun x _ => 0 ≤ x ∧ ∀ y, 0 ≤ y → y < x → ¬ Hit s l r.toNat y) Q ?_ 0 () h0 ⟨by omega, fun y _ _ => by omega⟩
  rintro x - hx ⟨x0, hno⟩ ih
  by_cases h : x < s
  · refine Cm.step (fun k => by simp (disch := omega) only [spec_RadiusOf.l1, if_pos h, w64 (x + 1)]; try rfl) ?_
    refine Cm.bindE (within_ev s l hl hG x ⟨x0, h⟩ r r0) ?_
    refine Cm.ite (fun e => Cm.now (h1 ⟨x, ⟨x0, h⟩, fun v v0 v1 => ?_⟩)) (fun e => ih () h ⟨by omega, fun y y0 y1 => ?_⟩)
    · exact of_decide_eq_true ((filter_all.1 e).2 v v0 v1)
    · by_cases hy : y = x
      · rw [hy]
        intro hh
        exact e (filter_all.2 ⟨h0, fun v v0 v1 => decide_eq_true (hh v v0 v1)⟩)
      · exact hno y y0 (by omega)
  · refine Cm.step (fun k => by simp only [spec_RadiusOf.l1, if_neg h]; try rfl) (h2 (fun y y0 y1 => hno y y0 (by omega)))

theorem impl_row (s : Int) (l : List S65) (hG : Gr.Good s l) (m : List Int) (hm : Net s l m) (r : Int) (r0 : 0 ≤ r) (hr : r < s) (Q : Int × Bool → Prop) (h1 : (∃ x, (0 ≤ x ∧ x < s) ∧ Hit s l r.toNat x) → Q (r, true))
    (h2 : (∀ x, 0 ≤ x → x < s → ¬ Hit s l r.toNat x) → Cm (fun k => impl_RadiusOf.l0 k s (wrap64 (r + 1)) s l m) Q) : Cm (fun k => impl_RadiusOf.l0 k s r s l m) Q := by
  have h8 := hG.2.1
  have h0 := hG.1
  have hms := hm.1.1
  refine Cm.step (fun k => by simp only [impl_RadiusOf.l0, if_pos hr]; try rfl) ?_
  refine Cm.up (fun k x (_ : Unit) => impl_RadiusOf.l1 k r s r s x s l m) s (fun x _ => 0 ≤ x ∧ ∀ y, 0 ≤ y → y < x → ¬ Hit s l r.toNat y) Q ?_ 0 () h0 ⟨by omega, fun y _ _ => by omega⟩
  rintro x - hx ⟨x0, hno⟩ ih
  by_cases h : x < s
  · refine Cm.step (fun k => by simp (disch := omega) only [impl_RadiusOf.l1, if_pos h, w64 (x + 1)]; try rfl) ?_
    obtain ⟨q, eq, hq, hqb⟩ := ball_impl s l hG m hm x ⟨x0, h⟩ r r0 (by omega)
    have hA := mask_all h0 h8
    have ea : Ev (fun _ => impl_net_all.f m) (wrap64 (shl .i64 1 s - 1)) := Cm.ev (Cm.congr (fun _ => by unfold impl_net_all.f; rw [hms]) (Cm.now rfl))
    have hqa : q = wrap64 (shl .i64 1 s - 1) ↔ Hit s l r.toNat x := by
      constructor
      · intro e v v0 v1
        refine (hqb v v0 (by omega)).1 ?_
        rw [e, hA.2 v v0 (by omega), decide_eq_true v1]
        rfl
      · intro hh
        refine mask_ext _ _ hq hA.1 (fun v v0 v8 => ?_)
        rw [hA.2 v v0 v8, Bool.and_true, Bool.eq_iff_iff, hqb v v0 v8, decide_eq_true_eq]
        exact ⟨fun hv => (rch_in hG ⟨x0, h⟩ _ v hv).2, fun hv => hh v v0 hv⟩
    refine Cm.bindE eq (Cm.bindE ea ?_)
    refine Cm.ite (fun e => Cm.now (h1 ⟨x, ⟨x0, h⟩, hqa.1 e⟩)) (fun e => ih () h ⟨by omega, fun y y0 y1 => ?_⟩)
    by_cases hy : y = x
    · rw [hy]
      exact fun hh => e (hqa.2 hh)
    · exact hno y y0 (by omega)
  · refine Cm.step (fun k => by simp only [impl_RadiusOf.l1, if_neg h]; try rfl) (h2 (fun y y0 y1 => hno y y0 (by omega)))

theorem both (s : Int) (l : List S65) (hl : l.length ≤ 1048576) : ∃ r b, Ev (fun k => spec_RadiusOf.f k s l) (r, b) ∧ Ev (fun k => impl_RadiusOf.f k s l) (r, b) := by
  obtain ⟨b, hb, hS, hI⟩ := isGraph_full s l hl
  have sJ : Cm (fun k => spec_RadiusOf.j0 k true s l) (fun z => z = ((0 : Int), false)) := Cm.step (fun k => by simp only [spec_RadiusOf.j0, if_true]; try rfl) (Cm.now rfl)
  have iJ : Cm (fun k => impl_RadiusOf.j0 k true s l) (fun z => z = ((0 : Int), false)) := Cm.step (fun k => by simp only [impl_RadiusOf.j0, if_true]; try rfl) (Cm.now rfl)
  cases b with
  | false => exact ⟨0, false, Cm.ev (Cm.bindE hS (Cm.neg (by decide) sJ)), Cm.ev (Cm.bindE hI (Cm.neg (by decide) iJ))⟩
  | true =>
    obtain ⟨hG, hO⟩ := hb rfl
    have h8 := hG.2.1
    have h0 := hG.1
    by_cases hs : s = 0
    · refine ⟨0, false, Cm.ev (Cm.bindE hS (Cm.pos rfl (Cm.pos hs sJ))), Cm.ev (Cm.bindE hI (Cm.pos rfl ?_))⟩
      rw [show (s == 0) = true from beq_iff_eq.2 hs]
      exact iJ
    · have hs0 : (s == 0) = false := by rw [Bool.eq_false_iff]; exact fun e => hs (beq_iff_eq.1 e)
      have hpos : 0 < s := by omega
      obtain ⟨m, hm, hbit, hN⟩ := net_ev s l hl hG
      have hlen : ((V s).filter (fun _ => true)).length ≤ s.toNat := VF_len
      have e1 := parts_spec s l hl hG (fun _ => true) 8 (by omega)
      have hwI := whole_iff (l := l) hpos
      obtain ⟨p, hp⟩ : ∃ p, p = partsF s l 8 (fun _ => true) := ⟨_, rfl⟩
      rw [← hp] at e1 hwI
      have eW : Ev (fun k => spec_l2Whole.f k s l) (decide ((p.length : Int) ≤ 1)) := Cm.ev (by
        unfold spec_l2Whole.f
        exact Cm.bindE (all_ev s l h0 h8) (Cm.bindE e1 (Cm.now rfl)))
      have hS2 : ∀ {r : Int × Bool}, Cm (fun k => spec_RadiusOf.j0 k (!(decide ((p.length : Int) ≤ 1))) s l) (fun z => z = r) → Ev (fun k => spec_RadiusOf.f k s l) r := fun h => Cm.ev (Cm.bindE hS (Cm.pos rfl (Cm.neg hs (Cm.bindE eW h))))
      have hI2 : ∀ {r : Int × Bool}, Cm (fun k => impl_RadiusOf.l0 k s 0 s l m) (fun z => z = r) → Ev (fun k => impl_RadiusOf.f k s l) r := fun h => Cm.ev (Cm.bindE hI (Cm.pos rfl (by
        rw [hs0]
        refine Cm.step (fun k => by simp only [impl_RadiusOf.j0, Bool.false_eq_true, if_false]; try rfl) ?_
        exact Cm.bindE hN h)))
      by_cases hw : ∀ v, 0 ≤ v → v < s → Con l (fun _ => true) 0 v
      · have hpl : (p.length : Int) ≤ 1 := by have := hwI.2 hw; omega
        obtain ⟨R, R0, R1, hR, hno⟩ := least_hit (show (0 : Int) ≤ s - 1 by omega) ⟨0, ⟨by omega, hpos⟩, whole_hit hG hpos hw⟩
        refine ⟨R, true, hS2 ?_, hI2 ?_⟩
        · rw [decide_eq_true hpl]
          refine Cm.step (fun k => by simp only [spec_RadiusOf.j0, Bool.not_true, Bool.false_eq_true, if_false]; try rfl) ?_
          refine Cm.up (fun k r (_ : Unit) => spec_RadiusOf.l0 k r s l) R (fun r _ => 0 ≤ r) _ ?_ 0 () R0 (by omega)
          rintro r - hr r0 ih
          refine spec_row s l hl hG r r0 _ (fun ⟨x, hx, hh⟩ => ?_) (fun hn => ?_)
          · by_cases e : r = R
            · rw [e]
            · exact (hno r r0 (by omega) x hx.1 hx.2 hh).elim
          · by_cases e : r = R
            · obtain ⟨x, hx, hh⟩ := hR
              rw [e] at hn
              exact (hn x hx.1 hx.2 hh).elim
            · rw [w64 (r + 1) (by omega) (by omega)]
              exact ih () (by omega) (by omega)
        · refine Cm.up (fun k r (_ : Unit) => impl_RadiusOf.l0 k s r s l m) R (fun r _ => 0 ≤ r) _ ?_ 0 () R0 (by omega)
          rintro r - hr r0 ih
          refine impl_row s l hG m ⟨hm, hbit⟩ r r0 (by omega) _ (fun ⟨x, hx, hh⟩ => ?_) (fun hn => ?_)
          · by_cases e : r = R
            · rw [e]
            · exact (hno r r0 (by omega) x hx.1 hx.2 hh).elim
          · by_cases e : r = R
            · obtain ⟨x, hx, hh⟩ := hR
              rw [e] at hn
              exact (hn x hx.1 hx.2 hh).elim
            · rw [w64 (r + 1) (by omega) (by omega)]
              exact ih () (by omega) (by omega)
      · have hpl : ¬ (p.length : Int) ≤ 1 := fun hh => hw (hwI.1 (by omega))
        refine ⟨0, false, hS2 ?_, hI2 ?_⟩
        · rw [decide_eq_false hpl]
          exact sJ
        · refine Cm.up (fun k r (_ : Unit) => impl_RadiusOf.l0 k s r s l m) s (fun r _ => 0 ≤ r) _ ?_ 0 () h0 (by omega)
          rintro r - hr r0 ih
          by_cases h : r < s
          · refine impl_row s l hG m ⟨hm, hbit⟩ r r0 h _ (fun ⟨x, hx, hh⟩ => (hw (hit_whole hpos hh)).elim) (fun hn => ?_)
            rw [w64 (r + 1) (by omega) (by omega)]
            exact ih () h (by omega)
          · exact Cm.step (fun k => by simp only [impl_RadiusOf.l0, if_neg h]; try rfl) (Cm.now rfl)

theorem FnExactRadiusOf : laws_FnExactRadiusOf.Pure := by
  intro s0 l0 hs0 hl0 hx0
  refine Ev.rounds (Cm.ev ?_)
  unfold laws_FnExactRadiusOf.f
  by_cases c0 : (1048576 : Int) - l0.length < 0
  · exact Cm.bindE (sz_ev (sz_big s0 l0 hl0 c0)) (Cm.pos (by decide) (Cm.now rfl))
  refine Cm.bindE (sz_ev (sz_small s0 l0 (by omega))) (Cm.neg c0 ?_)
  obtain ⟨r, b, E1, E2⟩ := both s0 l0 (by omega)
  have a_b : ¬ (b != b) = true := by cases b <;> decide
  repeat first
    | with_reducible exact Cm.now rfl
    | refine Cm.bindE (toGraph_ev s0 l0 (by omega)) ?_
    | refine Cm.bindE E1 ?_
    | refine Cm.bindE E2 ?_
    | refine Cm.bindE (eqGraph_ev s0 l0 (by omega)) (Cm.pos rfl ?_)
    | refine Cm.neg a_b ?_
    | refine Cm.neg (by omega) ?_
    | refine Cm.pos (by omega) ?_
    | refine Cm.pos rfl ?_
    | dsimp only

end Go.Proofs.Yteepmbpmhaaonaa.Pure
