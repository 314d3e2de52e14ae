/- The pure law FnExactRenameNodes: both take lists of each node once alone, and lay the pairs of the renamed nodes in order. -/
import Derived.Test.YteepmbpmhaaonaaGrY
import Derived.Test.YteepmbpmhaaonaaGrU
import Derived.Test.YteepmbpmhaaonaaGrM
import Derived.Test.YteepmbpmhaaonaaGrB
import Derived.Test.YteepmbpmhaaonaaGrZ
import Derived.Test.YteepmbpmhaaonaaPxImplRenameNodes
import Derived.Test.YteepmbpmhaaonaaPxLawA
import Derived.Test.YteepmbpmhaaonaaPxLawsFnExactRenameNodes
import Derived.Test.YteepmbpmhaaonaaPxSpecRenameNodes
namespace Go.Proofs.Yteepmbpmhaaonaa.Pure
open Go.RowKit Go.Proofs.Yteepmbpmhaaonaa.P Go.Proofs.YteepmbpmhaaonaaW.PrintWords Go.Proofs.YteepmbpmhaaonaaW.PrintLast Go.Proofs.YteepmbpmhaaonaaW.PrintMore Go.Proofs.Yteepmbpmhaaonaa.Gr

/-- A pair renamed. -/
def ren (L : List Int) (e : S65) : S65 := if rd L e.f0 < rd L e.f1 then ⟨rd L e.f0, rd L e.f1⟩ else ⟨rd L e.f1, rd L e.f0⟩
theorem least_most (L : List Int) (e : S65) (h : rd L e.f0 ≠ rd L e.f1) : spec_l1Least.f (rd L e.f0) (rd L e.f1) = some (ren L e).f0 ∧ spec_l1Most.f (rd L e.f0) (rd L e.f1) = some (ren L e).f1 := by
  unfold spec_l1Least.f spec_l1Most.f ren
  by_cases c : rd L e.f0 < rd L e.f1
  · rw [if_pos c, if_pos c, if_neg (by omega)]
    exact ⟨rfl, rfl⟩
  · rw [if_neg c, if_neg c, if_pos (by omega)]
    exact ⟨rfl, rfl⟩
theorem ren_inj {s : Int} {L : List Int} (h : Each s L) {e e' : S65} (h0 : 0 ≤ e.f0 ∧ e.f0 < e.f1 ∧ e.f1 < s) (h1 : 0 ≤ e'.f0 ∧ e'.f0 < e'.f1 ∧ e'.f1 < s) (he : ren L e = ren L e') : e = e' := by
  cases e with
  | mk a b =>
    cases e' with
    | mk c d =>
      dsimp only at h0 h1
      have inj := each_inj h
      unfold ren at he
      dsimp only at he
      by_cases c1 : rd L a < rd L b
      · by_cases c2 : rd L c < rd L d
        · rw [if_pos c1, if_pos c2] at he
          injection he with e1 e2
          rw [inj a c (by omega) (by omega) (by omega) (by omega) e1, inj b d (by omega) (by omega) (by omega) (by omega) e2]
        · rw [if_pos c1, if_neg c2] at he
          injection he with e1 e2
          have := inj a d (by omega) (by omega) (by omega) (by omega) e1
          have := inj b c (by omega) (by omega) (by omega) (by omega) e2
          omega
      · by_cases c2 : rd L c < rd L d
        · rw [if_neg c1, if_pos c2] at he
          injection he with e1 e2
          have := inj b c (by omega) (by omega) (by omega) (by omega) e1
          have := inj a d (by omega) (by omega) (by omega) (by omega) e2
          omega
        · rw [if_neg c1, if_neg c2] at he
          injection he with e1 e2
          rw [inj b d (by omega) (by omega) (by omega) (by omega) e1, inj a c (by omega) (by omega) (by omega) (by omega) e2]

theorem renamed_cm (s : Int) (l : List S65) (L : List Int) (hl : l.length ≤ 1048576) (hG : Gr.Good s l) (hS : Sorted l) (hE : Each s L) :
    Cm (fun k => spec_l2Renamed.f k s l L) (fun r => r.1 = s ∧ Up2 r.2 ∧ ∀ x, x ∈ r.2 ↔ ∃ e ∈ l, x = ren L e) := by
  unfold spec_l2Renamed.f
  refine Cm.up (fun k i a => spec_l2Renamed.l0 k L i s l s a) l.length (fun i a => 0 ≤ i ∧ Up2 a ∧ (a.length : Int) = i ∧ ∀ x, x ∈ a ↔ ∃ e ∈ l.take i.toNat, x = ren L e) _ ?_ 0 [] (by omega) ⟨by omega, List.Pairwise.nil, rfl, fun x => by simp⟩
  rintro i a hi ⟨h0, hU, hlen, ha⟩ ih
  by_cases h : i < l.length
  · have hm := rdT_mem l i h0 h
    have hg := good_mem hG hm
    have hll := hE.1
    have hne : rd L (rd_T65 l i).f0 ≠ rd L (rd_T65 l i).f1 := fun e => by have := each_inj hE _ _ (by omega) (by omega) (by omega) (by omega) e; omega
    have hlm := least_most L (rd_T65 l i) hne
    have hna : ren L (rd_T65 l i) ∉ a := by
      rw [ha]
      rintro ⟨e, he, hee⟩
      have h1 := good_mem hG (List.mem_of_mem_take he)
      have h2 := ren_inj hE hg h1 hee
      obtain ⟨j, hj, hje⟩ := List.mem_iff_getElem.1 he
      rw [List.getElem_take] at hje
      rw [List.length_take] at hj
      have hp := List.pairwise_iff_getElem.1 (sorted_up2 hS) j i.toNat (by omega) (by omega) (by omega)
      have hr := rdT_eq l i.toNat (by omega)
      rw [Int.toNat_of_nonneg h0] at hr
      rw [hje, ← hr, h2] at hp
      exact ltP_irr hp
    refine Cm.step (fun k => by simp (disch := omega) only [spec_l2Renamed.l0, if_pos, w64 (i + 1), hlm.1, hlm.2, Option.bind_some]; try rfl) (Cm.bind (l2Put_cm a (ren L (rd_T65 l i)) (by omega) hU hna) (fun r hr => ih r h ⟨by omega, hr.1, by rw [hr.2.2]; omega, fun x => ?_⟩))
    rw [hr.2.1, ha, takeT l i h0 h]
    constructor
    · rintro (hx | ⟨e, he, hx⟩)
      · exact ⟨_, List.mem_append.2 (.inr List.mem_cons_self), hx⟩
      · exact ⟨e, List.mem_append.2 (.inl he), hx⟩
    · rintro ⟨e, he, hx⟩
      rcases List.mem_append.1 he with he | he
      · exact .inr ⟨e, he, hx⟩
      · rw [List.mem_singleton] at he
        subst he
        exact .inl hx
  · refine Cm.step (fun k => by simp only [spec_l2Renamed.l0, if_neg h]; try rfl) (Cm.now ⟨rfl, hU, fun x => ?_⟩)
    rw [ha, takeT_all l i (by omega)]

theorem from_cm (s : Int) (l : List S65) (L m : List Int) (hL : L.length ≤ 1048576) (h8 : s ≤ 8) (hE : Each s L) (Q : Int × List S65 × Bool → Prop)
    (hq : ∀ F : List Int, (F.length : Int) = s → (∀ j : Int, 0 ≤ j → j < s → rd F (rd L j) = j) → Cm (fun k => (impl_graphBy_RenameNodes.f k s m F).bind fun bt => some (bt.1, bt.2, true)) Q) :
    Cm (fun k => impl_RenameNodes.l0 k L L.length 0 s l m (List.replicate s.toNat 0)) Q := by
  have hs0 : 0 ≤ s := by have := hE.1; omega
  refine Cm.up (fun k i F => impl_RenameNodes.l0 k L L.length i s l m F) L.length (fun i F => 0 ≤ i ∧ (F.length : Int) = s ∧ ∀ j : Int, 0 ≤ j → j < i → rd F (rd L j) = j) _ ?_ 0 _ (by omega) ⟨by omega, by simp; omega, fun j h0 h1 => by omega⟩
  rintro i F hi ⟨h0, hF, hj⟩ ih
  have hls := hE.1
  by_cases h : i < L.length
  · have hr := each_in hE _ (rd_mem L i h0 h)
    refine Cm.step (fun k => by simp (disch := omega) only [impl_RenameNodes.l0, if_pos, w64 (i + 1)]; try rfl) (ih _ h ⟨by omega, by rw [List.length_set]; exact hF, fun j h1 h2 => ?_⟩)
    have hrj := each_in hE _ (rd_mem L j h1 (by omega))
    rw [rd_set F (rd L i) (rd L j) i hr.1 (by omega) hrj.1]
    by_cases e : rd L i = rd L j
    · rw [if_pos e]
      exact each_inj hE i j h0 (by omega) h1 (by omega) e
    · rw [if_neg e]
      refine hj j h1 ?_
      have : j ≠ i := fun e' => e (by rw [e'])
      omega
  · refine Cm.step (fun k => by simp only [impl_RenameNodes.l0, if_neg h]; try rfl) (hq F hF (fun j h1 h2 => hj j h1 (by omega)))

open Classical in
theorem ren_both (s : Int) (l : List S65) (L : List Int) (hl : l.length ≤ 1048576) (hL : L.length ≤ 1048576) : ∃ n es b, es.length ≤ 1048576 ∧ Ev (fun k => spec_RenameNodes.f k s l L) (n, es, b) ∧ Ev (fun k => impl_RenameNodes.f k s l L) (n, es, b) := by
  obtain ⟨b, hg, hS, hI⟩ := isGraph_full s l (by omega)
  have iJ : Cm (fun k => impl_RenameNodes.j0 k L true s l) (fun x => x = (0, [], false)) := Cm.step (fun k => by simp only [impl_RenameNodes.j0, if_true]; try rfl) (Cm.now rfl)
  cases b with
  | false =>
    refine ⟨0, [], false, by simp, Cm.ev ?_, Cm.ev ?_⟩
    · exact Cm.bindE hS (Cm.neg (by decide) (Cm.now rfl))
    · exact Cm.bindE hI (Cm.neg (by decide) iJ)
  | true =>
    obtain ⟨hG, hO⟩ := hg rfl
    have h8 := hG.2.1
    have h0 := hG.1
    by_cases hE : Each s L
    · obtain ⟨m, hm, hb, hN⟩ := net_ev s l (by omega) hG
      have hlen := pairs_len (fun x y => near l x y) s (by omega)
      obtain ⟨r, hr, hr1, hr2, hr3⟩ := renamed_cm s l L hl hG hO hE
      refine ⟨s, r.2, true, ?_, Cm.ev ?_, Cm.ev ?_⟩
      · have : r.2 = pairs (fun x y => decide ((⟨x, y⟩ : S65) ∈ r.2)) s := by
          refine up2_ext hr2 (pairs_up _ _) (fun e => ?_)
          rw [mem_pairs, decide_eq_true_eq]
          refine ⟨fun he => ?_, fun he => he.2.2.2⟩
          obtain ⟨e', he', rfl⟩ := (hr3 e).1 he
          have hg' := good_mem hG he'
          have a := each_in hE _ (rd_mem L e'.f0 (by omega) (by have := hE.1; omega))
          have c := each_in hE _ (rd_mem L e'.f1 (by omega) (by have := hE.1; omega))
          have ne : rd L e'.f0 ≠ rd L e'.f1 := fun e => by have := each_inj hE _ _ (by omega) (by omega) (by omega) (by omega) e; omega
          unfold ren at he ⊢
          by_cases cc : rd L e'.f0 < rd L e'.f1
          · rw [if_pos cc] at he ⊢
            exact ⟨a.1, cc, c.2, he⟩
          · rw [if_neg cc] at he ⊢
            exact ⟨c.1, by show rd L e'.f1 < rd L e'.f0; omega, a.2, he⟩
        rw [this]
        have := pairs_len (fun x y => decide ((⟨x, y⟩ : S65) ∈ r.2)) s (by omega)
        omega
      · obtain ⟨be, hbe, hbe'⟩ := each_cm s l L hL h0 h8
        refine Cm.bindE hS (Cm.pos rfl (Cm.bindE hbe (Cm.pos (hbe'.2 hE) (Cm.bindE hr (Cm.now ?_)))))
        rw [hr1]
      · obtain ⟨be, hbe, hbe'⟩ := order_cm s l L hL h0 h8
        refine Cm.bindE hI (Cm.pos rfl (Cm.bindE hbe ?_))
        rw [hbe'.2 hE]
        refine Cm.step (fun k => by simp only [impl_RenameNodes.j0, Bool.not_true, Bool.false_eq_true, if_false]; try rfl) (Cm.bindE hN (Cm.pos h0 (Cm.pos (show s.toNat ≤ 35184372088832 by omega) (from_cm s l L m hL h8 hE _ (fun F hF hj => ?_)))))
        have hF1 : ∀ y : Int, 0 ≤ y → y < s → (0 ≤ rd F y ∧ rd F y < s) ∧ rd L (rd F y) = y := fun y y0 y1 => by
          obtain ⟨i, i0, i1, i2⟩ := mem_rd (hE.2 y y0 y1)
          have := hj i i0 (by have := hE.1; omega)
          rw [i2] at this
          rw [this]
          exact ⟨⟨i0, by have := hE.1; omega⟩, i2⟩
        have hc : ∀ x y : Int, 0 ≤ x → x < y → y < s → impl_graphBy_RenameNodes.c m F x y = some (near l (rd F x) (rd F y)) := fun x y x0 xy y1 => by
          have a := (hF1 x x0 (by omega)).1
          have c := (hF1 y (by omega) y1).1
          unfold impl_graphBy_RenameNodes.c impl_RenameNodes_1.f
          rw [if_pos x0, if_pos (by omega), if_pos (by omega), if_pos (by omega), has_eq s m _ _ hm a.1 a.2 c.1, Option.bind_some, hb _ _ a.1 a.2 c.1 (by omega)]
        have hok : okBy (impl_graphBy_RenameNodes.c m F) s = true := okBy_all _ _ (fun x y x0 xy y1 => by rw [hc x y x0 xy y1]; rfl)
        have hp : pairs (fun x y => (impl_graphBy_RenameNodes.c m F x y).getD false) s = r.2 := by
          refine up2_ext (pairs_up _ _) hr2 (fun e => ?_)
          rw [mem_pairs, hr3]
          constructor
          · rintro ⟨e0, e1, e2, e3⟩
            rw [hc _ _ e0 e1 e2, Option.getD_some, near_iff] at e3
            have p := hF1 e.f0 e0 (by omega)
            have q := hF1 e.f1 (by omega) e2
            rcases e3 with e3 | e3
            · refine ⟨_, e3, ?_⟩
              unfold ren
              dsimp only
              rw [p.2, q.2, if_pos e1]
            · refine ⟨_, e3, ?_⟩
              unfold ren
              dsimp only
              rw [p.2, q.2, if_neg (by omega)]
          · rintro ⟨e', he', rfl⟩
            have hg' := good_mem hG he'
            have a := each_in hE _ (rd_mem L e'.f0 (by omega) (by have := hE.1; omega))
            have c := each_in hE _ (rd_mem L e'.f1 (by omega) (by have := hE.1; omega))
            have ne : rd L e'.f0 ≠ rd L e'.f1 := fun e => by have := each_inj hE _ _ (by omega) (by omega) (by omega) (by omega) e; omega
            have j0 := hj e'.f0 (by omega) (by omega)
            have j1 := hj e'.f1 (by omega) (by omega)
            unfold ren
            by_cases cc : rd L e'.f0 < rd L e'.f1
            · rw [if_pos cc]
              refine ⟨a.1, cc, c.2, ?_⟩
              dsimp only
              rw [hc _ _ a.1 cc c.2, Option.getD_some, j0, j1, near_iff]
              exact .inl he'
            · rw [if_neg cc]
              refine ⟨c.1, by show rd L e'.f1 < rd L e'.f0; omega, a.2, ?_⟩
              dsimp only
              rw [hc _ _ c.1 (by omega) a.2, Option.getD_some, j0, j1, near_iff]
              exact .inr he'
        refine Cm.bindE (x := (s, r.2)) ?_ (Cm.now rfl)
        obtain ⟨K, hK⟩ := by_ev (fun x y => (impl_graphBy_RenameNodes.c m F x y).getD false) s h0 (by omega)
        dsimp only at hK
        refine ⟨K, fun k hk => ?_⟩
        dsimp only
        unfold impl_graphBy_RenameNodes.f
        rw [if_pos ⟨⟨h0, by omega⟩, hok⟩, hK k hk, hp]
        rfl
    · refine ⟨0, [], false, by simp, Cm.ev ?_, Cm.ev ?_⟩
      · obtain ⟨be, hbe, hbe'⟩ := each_cm s l L hL h0 h8
        have e : be = false := Bool.eq_false_iff.2 (fun h => hE (hbe'.1 h))
        subst e
        exact Cm.bindE hS (Cm.pos rfl (Cm.bindE hbe (Cm.neg (by decide) (Cm.now rfl))))
      · obtain ⟨be, hbe, hbe'⟩ := order_cm s l L hL h0 h8
        have e : be = false := Bool.eq_false_iff.2 (fun h => hE (hbe'.1 h))
        subst e
        exact Cm.bindE hI (Cm.pos rfl (Cm.bindE hbe iJ))

theorem FnExactRenameNodes : laws_FnExactRenameNodes.Pure := by
  intro s0 l0 L1 hs0 hl0 hx0 hm1 hw1
  refine Ev.rounds (Cm.ev ?_)
  unfold laws_FnExactRenameNodes.f
  refine Cm.ite (fun _ => Cm.now rfl) (fun cL1 => ?_)
  by_cases c0 : (1048576 : Int) - l0.length < 0
  · exact Cm.bindE (sz_ev (sz_big s0 l0 hl0 c0)) (Cm.pos (by decide) (Cm.now rfl))
  refine Cm.bindE (sz_ev (sz_small s0 l0 (by omega))) (Cm.neg c0 ?_)
  obtain ⟨n, es, b, he, E1, E2⟩ := ren_both s0 l0 L1 (by omega) (by omega)
  obtain ⟨r0, M0⟩ := mark_at s0 l0 ((1 : Int)) (by omega) (by omega) (by omega)
  obtain ⟨r1, M1⟩ := markI_at L1 ((1 : Int) + 2 * (l0.length : Int)) (by omega) (by omega) (by omega)
  obtain ⟨re, E3, E4⟩ := mark_held n es (by omega)
  have a_b : ¬ (b != b) = true := by cases b <;> decide
  repeat first
    | with_reducible exact Cm.now rfl
    | refine Cm.bindE (toGraph_ev s0 l0 (by omega)) ?_
    | refine Cm.bindE (toI_ev L1 (by omega)) ?_
    | refine Cm.bindE E1 ?_
    | refine Cm.bindE E2 ?_
    | refine Cm.bindE (eqGraph_ev n es (by omega)) (Cm.pos rfl ?_)
    | refine Cm.bindE (eqGraph_ev s0 l0 (by omega)) (Cm.pos rfl ?_)
    | refine Cm.bindE (eqI_ev L1 (by omega)) (Cm.pos rfl ?_)
    | refine Cm.bindE M0 ?_
    | refine Cm.bindE M1 ?_
    | refine Cm.bindE E3 ?_
    | refine Cm.bindE E4 ?_
    | refine Cm.neg a_b ?_
    | refine Cm.neg (by omega) ?_
    | refine Cm.pos (by omega) ?_
    | refine Cm.pos rfl ?_
    | dsimp only

end Go.Proofs.Yteepmbpmhaaonaa.Pure
