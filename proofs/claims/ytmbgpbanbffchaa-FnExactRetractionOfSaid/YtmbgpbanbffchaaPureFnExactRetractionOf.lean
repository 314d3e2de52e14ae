/- The pure law FnExactRetractionOf: both follow each node along the steps of the stripping, the program from the first step on, the reference from the last one back. -/
import Derived.Test.YtmbgpbanbffchaaGrR
import Derived.Test.YtmbgpbanbffchaaGrMv
import Derived.Test.YtmbgpbanbffchaaGrSo
import Derived.Test.YtmbgpbanbffchaaGrJ
import Derived.Test.YtmbgpbanbffchaaGrBm
import Derived.Test.YtmbgpbanbffchaaPxImplRetractionOf
import Derived.Test.YtmbgpbanbffchaaPxLawsFnExactRetractionOf
import Derived.Test.YtmbgpbanbffchaaPxSpecRetractionOf
namespace Go.Proofs.Ytmbgpbanbffchaa.Pure
open Go.RowKit Go.Proofs.Ytmbgpbanbffchaa.P Go.Proofs.YtmbgpbanbffchaaW.PrintWords Go.Proofs.YtmbgpbanbffchaaW.PrintLast Go.Proofs.YtmbgpbanbffchaaW.PrintMore Go.Proofs.Ytmbgpbanbffchaa.Gr

/-- Where a node comes to, along the steps. -/
def fol (a : List S75) (x : Int) : Int := a.foldl (fun t e => if e.f0 = t then e.f1 else t) x

theorem strip_in {s : Int} {l : List S75} : ∀ (n : Nat) (P : Int → Bool), ∀ e ∈ (stripF s l n P).1, (0 ≤ e.f0 ∧ e.f0 < s) ∧ 0 ≤ e.f1 ∧ e.f1 < s := by
  intro n
  induction n with
  | zero => intro P e he; cases he
  | succ n ih =>
    intro P e he
    cases hc : corn s l P with
    | nil => rw [stripF_nil hc] at he; cases he
    | cons x t =>
      rw [stripF_cons hc] at he
      have hx := corn_head hc
      rcases List.mem_cons.1 he with h | h
      · obtain ⟨y, u, hy⟩ := hasC_iff.1 hx.2.2
        have hm : y ∈ covs s l P x := by rw [hy]; exact List.mem_cons_self
        rw [h]
        dsimp only
        rw [hy]
        exact ⟨hx.1, (mem_covs.1 hm).2.1⟩
      · exact ih _ e h

theorem fol_in {s : Int} : ∀ (a : List S75) (x : Int), (∀ e ∈ a, (0 ≤ e.f0 ∧ e.f0 < s) ∧ 0 ≤ e.f1 ∧ e.f1 < s) → 0 ≤ x ∧ x < s → 0 ≤ fol a x ∧ fol a x < s
  | [], x, _, hx => hx
  | e :: a, x, ha, hx => by
    unfold fol
    rw [List.foldl_cons]
    refine fol_in a _ (fun e h => ha e (List.mem_cons_of_mem _ h)) ?_
    split
    · exact (ha e List.mem_cons_self).2
    · exact hx

theorem drop_cons (a : List S75) (n : Nat) (h : n < a.length) : a.drop n = rd_T75 a n :: a.drop (n + 1) := by
  rw [List.drop_eq_getElem_cons h]
  congr 1
  have := takeT a n (by omega) (by omega)
  rw [show ((n : Int) + 1).toNat = n + 1 by omega, show ((n : Int)).toNat = n by omega, List.take_succ_eq_append_getElem h] at this
  exact List.singleton_inj.1 (List.append_cancel_left this)

theorem spec_loop (s : Int) (a : List S75) (ha : ∀ e ∈ a, (0 ≤ e.f0 ∧ e.f0 < s) ∧ 0 ≤ e.f1 ∧ e.f1 < s) (hl : a.length ≤ 1000) : ∀ (n : Nat), n ≤ a.length →
    Cm (fun k => spec_l3Retraction.l0 k a ((V s).map (fol (a.drop n))) ((n : Int) - 1)) (fun r => r = (V s).map (fol a)) := by
  intro n
  induction n with
  | zero =>
    intro _
    refine Cm.step (fun k => by simp only [spec_l3Retraction.l0]; try rfl) (Cm.neg (by omega) (Cm.now ?_))
    rw [List.drop_zero]
  | succ n ih =>
    intro hn
    have he := ha _ (rdT_mem a n (by omega) (by omega))
    have hlen : (((V s).map (fol (a.drop (n + 1)))).length : Int) = s := by rw [mapV_len]; omega
    refine Cm.step (fun k => by simp only [spec_l3Retraction.l0]; try rfl) ?_
    rw [show ((n + 1 : Nat) : Int) - 1 = (n : Int) by omega]
    refine Cm.pos (by omega) (Cm.pos (by omega) (Cm.pos (by omega) (Cm.pos he.2.1 (Cm.pos (by omega) (Cm.pos he.1.1 (Cm.pos (by omega) ?_))))))
    rw [w64 _ (by omega) (by omega), rd_mapV s _ _ he.2.1 he.2.2, mapV_set s _ _ _ he.1.1]
    have e : (fun a_1 => if a_1 = (rd_T75 a n).f0 then fol (a.drop (n + 1)) (rd_T75 a n).f1 else fol (a.drop (n + 1)) a_1) = fol (a.drop n) := by
      funext x
      rw [drop_cons a n (by omega)]
      conv => rhs; unfold fol; rw [List.foldl_cons]
      by_cases h : x = (rd_T75 a n).f0
      · rw [if_pos h, if_pos h.symm]; rfl
      · rw [if_neg h, if_neg (fun h' => h h'.symm)]; rfl
    rw [e]
    exact ih (by omega)

theorem impl_loop (s : Int) (h0 : 0 ≤ s) (h8 : s ≤ 8) (a : List S75) (_ha : ∀ e ∈ a, (0 ≤ e.f0 ∧ e.f0 < s) ∧ 0 ≤ e.f1 ∧ e.f1 < s) (hl : a.length ≤ 1000) :
    Cm (fun k => impl_RetractionOf.l0 k a (List.replicate s.toNat 0) s 0) (fun r => r = ((V s).map (fol a), true)) := by
  refine Cm.up (fun k i (z : List Int) => impl_RetractionOf.l0 k a z s i) s (fun i z => 0 ≤ i ∧ z = (V s).map (fun v => if v < i then fol a v else 0)) _ ?_ 0 _ h0 ⟨by omega, ?_⟩
  · rintro i z hi ⟨i0, rfl⟩ ih
    by_cases h : i < s
    · have hlen : (((V s).map (fun v => if v < i then fol a v else 0)).length : Int) = s := by rw [mapV_len]; omega
      refine Cm.step (fun k => by simp only [impl_RetractionOf.l0, if_pos h, if_pos i0]; try rfl) (Cm.pos (by omega) ?_)
      rw [mapV_set s _ _ _ i0]
      refine Cm.up (fun k j (z : List Int) => impl_RetractionOf.l1 k a z i s i a a.length j) a.length (fun j z => 0 ≤ j ∧ z = (V s).map (fun v => if v = i then fol (a.take j.toNat) i else if v < i then fol a v else 0)) _ ?_ 0 _ (by omega) ⟨by omega, ?_⟩
      · rintro j z hj ⟨j0, rfl⟩ ih2
        by_cases h2 : j < (a.length : Int)
        · have hlen2 : (((V s).map (fun v => if v = i then fol (a.take j.toNat) i else if v < i then fol a v else 0)).length : Int) = s := by rw [mapV_len]; omega
          have hr := rd_mapV s (fun v => if v = i then fol (a.take j.toNat) i else if v < i then fol a v else 0) i i0 h
          rw [if_pos rfl] at hr
          have hn : fol (a.take (j + 1).toNat) i = if (rd_T75 a j).f0 = fol (a.take j.toNat) i then (rd_T75 a j).f1 else fol (a.take j.toNat) i := by
            rw [takeT a j j0 h2]
            unfold fol
            rw [List.foldl_append]
            rfl
          refine Cm.step (fun k => by simp only [impl_RetractionOf.l1, if_pos h2, if_pos j0, if_pos i0, hr]; try rfl) (Cm.pos (by omega) ?_)
          rw [w64 (j + 1) (by omega) (by omega)]
          refine Cm.ite (fun c => ?_) (fun c => ?_)
          · rw [mapV_set s _ _ _ i0]
            refine ih2 _ h2 ⟨by omega, mapV_congr (fun v _ => ?_)⟩
            rw [hn, if_pos c]
            by_cases e : v = i
            · rw [if_pos e, if_pos e]
            · rw [if_neg e, if_neg e, if_neg e]
          · refine ih2 _ h2 ⟨by omega, mapV_congr (fun v _ => ?_)⟩
            rw [hn, if_neg c]
        · refine Cm.step (fun k => by simp only [impl_RetractionOf.l1, if_neg h2]; try rfl) ?_
          rw [w64 (i + 1) (by omega) (by omega)]
          refine ih _ h ⟨by omega, mapV_congr (fun v _ => ?_)⟩
          rw [takeT_all a j (by omega)]
          by_cases e : v = i
          · rw [if_pos e, if_pos (by omega), e]
          · rw [if_neg e]
            by_cases e2 : v < i
            · rw [if_pos e2, if_pos (by omega)]
            · rw [if_neg e2, if_neg (by omega)]
      · refine mapV_congr (fun v _ => ?_)
        rw [show (0 : Int).toNat = 0 from rfl, List.take_zero]
        rfl
    · refine Cm.step (fun k => by simp only [impl_RetractionOf.l0, if_neg h]; try rfl) (Cm.now ?_)
      rw [mapV_congr (g := fol a) (fun v hv => if_pos (by omega))]
  · rw [mapV_congr (g := fun _ => (0 : Int)) (fun v hv => if_neg (by omega)), List.map_const', V_len]

theorem both (s : Int) (l : List S75) (hl : l.length ≤ 1048576) : ∃ r b, r.length ≤ 1048576 ∧ Ev (fun k => spec_RetractionOf.f k s l) (r, b) ∧ Ev (fun k => impl_RetractionOf.f k s l) (r, b) := by
  obtain ⟨b, hb, hS, hI⟩ := isGraph_full s l hl
  have hSo := some_ev s l b hS
  have iJ : Cm (fun k => impl_RetractionOf.j0 k true s l) (fun z => z = ([], false)) := Cm.step (fun k => by simp only [impl_RetractionOf.j0, if_true]; try rfl) (Cm.now rfl)
  by_cases hc : b = true ∧ s > 0
  · obtain ⟨rfl, hs⟩ := hc
    obtain ⟨hG, hO⟩ := hb rfl
    have h8 := hG.2.1
    obtain ⟨r, hr, hbit, hN⟩ := net_ev s l hl hG
    obtain ⟨a, P, m, ha, hM, he, e1, e2⟩ := strip_both s l hl hG r ⟨hr, hbit⟩
    have hin : ∀ e ∈ a, (0 ≤ e.f0 ∧ e.f0 < s) ∧ 0 ≤ e.f1 ∧ e.f1 < s := by
      have h1 : a = (stripF s l 8 (fun _ => true)).1 := congrArg Prod.fst he
      rw [h1]
      exact strip_in 8 _
    rw [Bool.true_and, decide_eq_true hs] at hSo
    refine ⟨(V s).map (fol a), true, by rw [mapV_len]; omega, Cm.ev ?_, Cm.ev ?_⟩
    · refine Cm.bindE hSo (Cm.pos rfl (Cm.bindE (Cm.ev ?_) (Cm.now rfl)))
      unfold spec_l3Retraction.f
      refine Cm.bindE e1 (Cm.bindE (all_ev s l (by omega) h8) ?_)
      dsimp only
      rw [w64 _ (by omega) (by omega)]
      have h := spec_loop s a hin (by omega) a.length (Nat.le_refl _)
      have e : (V s).filter (fun _ => true) = (V s).map (fol (a.drop a.length)) := by
        rw [List.filter_eq_self.2 (fun _ _ => rfl), List.drop_length]
        exact (List.map_id' (V s)).symm
      rw [e]
      exact h
    · refine Cm.bindE hI (Cm.pos rfl ?_)
      have hz : (s == 0) = false := by rw [beq_eq_false_iff_ne]; omega
      rw [hz]
      refine Cm.step (fun k => by simp only [impl_RetractionOf.j0, Bool.false_eq_true, if_false]; try rfl) ?_
      refine Cm.bindE hN (Cm.bindE e2 (Cm.pos (by omega) (Cm.pos (by omega) (Cm.bindE (Ev.now _) ?_))))
      dsimp only
      rw [List.length_replicate, show ((s.toNat : Nat) : Int) = s by omega]
      exact impl_loop s (by omega) h8 a hin (by omega)
  · have hf : (b && decide (s > 0)) = false := by
      rw [Bool.and_eq_false_iff]
      by_cases hb' : b = true
      · exact .inr (decide_eq_false (fun h => hc ⟨hb', h⟩))
      · exact .inl (Bool.eq_false_iff.2 hb')
    rw [hf] at hSo
    refine ⟨[], false, by simp, Cm.ev ?_, Cm.ev ?_⟩
    · exact Cm.bindE hSo (Cm.neg (by decide) (Cm.now rfl))
    · refine Cm.bindE hI (Cm.ite (fun e => ?_) (fun _ => iJ))
      have hz : (s == 0) = true := by rw [beq_iff_eq]; have := (hb e).1.1; have h5 : ¬ s > 0 := fun h => hc ⟨e, h⟩; omega
      rw [hz]
      exact iJ

theorem FnExactRetractionOf : laws_FnExactRetractionOf.Pure := by
  intro s0 l0 hs0 hl0 hx0
  refine Ev.rounds (Cm.ev ?_)
  unfold laws_FnExactRetractionOf.f
  by_cases c0 : (1048576 : Int) - l0.length < 0
  · exact Cm.bindE (sz_ev (sz_big s0 l0 hl0 c0)) (Cm.pos (by decide) (Cm.now rfl))
  refine Cm.bindE (sz_ev (sz_small s0 l0 (by omega))) (Cm.neg c0 ?_)
  obtain ⟨es, b, he, E1, E2⟩ := both s0 l0 (by omega)
  obtain ⟨r0, M0⟩ := mark_at s0 l0 ((1 : Int)) (by omega) (by omega) (by omega)
  obtain ⟨re, E3, E4⟩ := mark_heldI es (by omega)
  have a_b : ¬ (b != b) = true := by cases b <;> decide
  repeat first
    | with_reducible exact Cm.now rfl
    | refine Cm.bindE (toGraph_ev s0 l0 (by omega)) ?_
    | refine Cm.bindE E1 ?_
    | refine Cm.bindE E2 ?_
    | refine Cm.bindE (eqI_ev es (by omega)) (Cm.pos rfl ?_)
    | refine Cm.bindE (eqGraph_ev s0 l0 (by omega)) (Cm.pos rfl ?_)
    | refine Cm.bindE M0 ?_
    | refine Cm.bindE E3 ?_
    | refine Cm.bindE E4 ?_
    | refine Cm.neg a_b ?_
    | refine Cm.neg (by omega) ?_
    | refine Cm.pos (by omega) ?_
    | refine Cm.pos rfl ?_
    | dsimp only

end Go.Proofs.Ytmbgpbanbffchaa.Pure
