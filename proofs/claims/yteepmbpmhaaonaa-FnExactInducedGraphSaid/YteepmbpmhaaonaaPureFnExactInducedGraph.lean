/- The pure law FnExactInducedGraph: both take rising lists of nodes alone, and lay the graph induced on them. -/
import Derived.Test.YteepmbpmhaaonaaGrD
import Derived.Test.YteepmbpmhaaonaaGrT
import Derived.Test.YteepmbpmhaaonaaGrB
import Derived.Test.YteepmbpmhaaonaaPx22
namespace Go.Proofs.Yteepmbpmhaaonaa.Pure
open Go.RowKit Go.Proofs.Yteepmbpmhaaonaa.P Go.Proofs.YteepmbpmhaaonaaW.PrintWords Go.Proofs.YteepmbpmhaaonaaW.PrintLast Go.Proofs.YteepmbpmhaaonaaW.PrintMore Go.Proofs.Yteepmbpmhaaonaa.Gr

theorem ind_both (s : Int) (l : List S65) (L : List Int) (hl : l.length ≤ 1048576) (hL : L.length ≤ 1048576) : ∃ n es b, es.length ≤ 1048576 ∧ Ev (fun k => spec_InducedGraph.f k s l L) (n, es, b) ∧ Ev (fun k => impl_InducedGraph.f k s l L) (n, es, b) := by
  obtain ⟨b, hg, hS, hI⟩ := isGraph_both s l hl
  cases b with
  | false =>
    refine ⟨0, [], false, by simp, ?_, ?_⟩
    · refine Ev.bind hS (Ev.congr (f := fun _ => some (0, [], false)) (fun k => ?_) (Ev.now _))
      rw [if_neg (by decide)]
    · refine Ev.bind (a := false) (Ev.bind (has_not s l L hI) (Ev.congr (f := fun _ => some false) (fun k => ?_) (Ev.now _))) (Ev.congr (f := fun _ => some (0, [], false)) (fun k => ?_) (Ev.now _))
      · rw [if_neg (by decide)]
      · rw [if_neg (by decide)]
  | true =>
    have hG := hg rfl
    have h8 := hG.2.1
    have h0 := hG.1
    have hw : wrap64 (s - 1) = s - 1 := by unfold wrap64; omega
    have hset : Ev (fun k => spec_l2Set.f k s l L) (isSetF L s) := by
      have := rise_spec L (s - 1) hL L.length 0 (by omega) (by omega)
      refine Ev.congr (f := fun k => (spec_l1Rising.f k L 0 (s - 1)).bind fun t => some t) (fun k => ?_) (Ev.bind (a := isSetF L s) this (Ev.now _))
      unfold spec_l2Set.f
      rw [hw]
    have hH := hasNodes_ev s l L hL hG hI
    have hset2 : Ev (fun k => impl_isSet.f k s l L) (isSetF L s) := by
      refine Ev.bind hH ?_
      by_cases hc : inF L (s - 1) L.length 0 = true
      · have e : isSetF L s = upF L L.length 0 := by unfold isSetF; rw [hc, Bool.true_and]
        rw [e]
        refine Ev.congr (f := fun k => (impl_increasing.f k L).bind fun t => some t) (fun k => ?_) (Ev.bind (inc_ev L hL) (Ev.now _))
        rw [if_pos hc]
      · have e : isSetF L s = false := by unfold isSetF; rw [Bool.eq_false_iff.2 hc, Bool.false_and]
        rw [e]
        refine Ev.congr (f := fun _ => some false) (fun k => ?_) (Ev.now _)
        rw [if_neg hc]
    by_cases hs : isSetF L s = true
    · rw [hs] at hset hset2
      have hlen := set_len L s hs h8
      obtain ⟨m, hm, hb, hN⟩ := net_ev s l hl hG
      refine ⟨(L.length : Int), pairs (nearAt l L) L.length, true, by have := pairs_len (nearAt l L) L.length (by omega); omega, ?_, ?_⟩
      · refine Ev.bind hS (Ev.congr (f := fun k => (spec_l2Set.f k s l L).bind fun t416 => if t416 = true then ((spec_l2Induced.f k s l L).bind fun bt417 => some (bt417.1, bt417.2, true)) else some (0, [], false)) (fun k => ?_) (Ev.bind hset (Ev.congr (f := fun k => (spec_l2Induced.f k s l L).bind fun bt417 => some (bt417.1, bt417.2, true)) (fun k => ?_) (Ev.bind (ind_spec s l hl L (by omega)) (Ev.now _)))))
        · rw [if_pos rfl]
        · rw [if_pos rfl]
      · refine Ev.bind hset2 (Ev.congr (f := fun k => (impl_netOf.f k s l).bind fun t429 => (impl_net_induced.f k t429 L).bind fun bt432 => some (bt432.1, bt432.2, true)) (fun k => ?_) (Ev.bind hN (Ev.bind (ind_impl s l hG m hm hb L (by omega) (set_mem L s hs)) (Ev.now _))))
        rw [if_pos rfl]
    · have hs' := Bool.eq_false_iff.2 hs
      rw [hs'] at hset hset2
      refine ⟨0, [], false, by simp, ?_, ?_⟩
      · refine Ev.bind hS (Ev.congr (f := fun k => (spec_l2Set.f k s l L).bind fun t416 => if t416 = true then ((spec_l2Induced.f k s l L).bind fun bt417 => some (bt417.1, bt417.2, true)) else some (0, [], false)) (fun k => ?_) (Ev.bind hset (Ev.congr (f := fun _ => some (0, [], false)) (fun k => ?_) (Ev.now _))))
        · rw [if_pos rfl]
        · rw [if_neg (by decide)]
      · refine Ev.bind hset2 (Ev.congr (f := fun _ => some (0, [], false)) (fun k => ?_) (Ev.now _))
        rw [if_neg (by decide)]

theorem FnExactInducedGraph : laws_FnExactInducedGraph.Pure := by
  intro s l L hs hl hx hLm hLw
  by_cases hL : (L.length : Int) > 1048576
  · refine ⟨0, ?_⟩
    unfold laws_FnExactInducedGraph.f
    rw [if_pos hL]
  have hLlen : L.length ≤ 1048576 := by omega
  by_cases hbig : (1048576 : Int) - l.length < 0
  · refine ⟨0, ?_⟩
    unfold laws_FnExactInducedGraph.f
    rw [if_neg hL, sz_big s l hl hbig]
    rfl
  have hlen : l.length ≤ 1048576 := by omega
  obtain ⟨n, es, b, hes, ⟨K1, h1⟩, ⟨K2, h2⟩⟩ := ind_both s l L hlen hLlen
  obtain ⟨K3, h3⟩ := toGraph_ev s l hlen
  obtain ⟨K4, h4⟩ := eqGraph_ev s l hlen
  obtain ⟨K5, h5⟩ := eqGraph_ev n es hes
  obtain ⟨r, ⟨K6, h6⟩, ⟨K7, h7⟩⟩ := mark_held n es hes
  obtain ⟨r', ⟨K8, h8⟩, _⟩ := mark_held s l hlen
  obtain ⟨K9, h9⟩ := toI_ev L hLlen
  obtain ⟨K10, h10⟩ := eqI_ev L hLlen
  obtain ⟨r'', _, _, _, ⟨K11, h11⟩⟩ := markI_loop L.length L (1 + 2 * (l.length : Int)) 0 hLlen (by omega) (by omega) (by omega) (by omega)
  dsimp only at h1 h2 h3 h4 h5 h6 h7 h8 h9 h10 h11
  obtain ⟨K, q1, q2, q3, q4, q5, q6, q7, q8, q9, q10, q11⟩ : ∃ K, K1 ≤ K ∧ K2 ≤ K ∧ K3 ≤ K ∧ K4 ≤ K ∧ K5 ≤ K ∧ K6 ≤ K ∧ K7 ≤ K ∧ K8 ≤ K ∧ K9 ≤ K ∧ K10 ≤ K ∧ K11 ≤ K := ⟨K1 + K2 + K3 + K4 + K5 + K6 + K7 + K8 + K9 + K10 + K11, by omega, by omega, by omega, by omega, by omega, by omega, by omega, by omega, by omega, by omega, by omega⟩
  have e1 : ∀ k, spec_InducedGraph.f (K + k) s l L = some (n, es, b) := fun k => h1 _ (by omega)
  have e2 : ∀ k, impl_InducedGraph.f (K + k) s l L = some (n, es, b) := fun k => h2 _ (by omega)
  have e3 : ∀ k, laws_toGraph.f (K + k) s l = some (s, l) := fun k => h3 _ (by omega)
  have e4 : ∀ k, laws_eqGraph.f (K + k) s l s l = some true := fun k => h4 _ (by omega)
  have e5 : ∀ k, laws_eqGraph.f (K + k) n es n es = some true := fun k => h5 _ (by omega)
  have e6 : ∀ k, laws_markGraph.f (K + k) n es 1 = some (1 + 2 * (es.length : Int), r) := fun k => h6 _ (by omega)
  have e7 : ∀ k, laws_heldGraph.f (K + k) n r 1 = some (1 + 2 * (es.length : Int)) := fun k => h7 _ (by omega)
  have e8 : ∀ k, laws_markGraph.f (K + k) s l 1 = some (1 + 2 * (l.length : Int), r') := fun k => h8 _ (by omega)
  have e9 : ∀ k, laws_toIntS.f (K + k) L = some L := fun k => h9 _ (by omega)
  have e10 : ∀ k, laws_eqIntS.f (K + k) L L = some true := fun k => h10 _ (by omega)
  have e11 : ∀ k, laws_markIntS.f (K + k) L (1 + 2 * (l.length : Int)) = some (1 + 2 * (l.length : Int) + (L.length : Int), r'') := fun k => h11 _ (by omega)
  have a1 : ¬ (1 + 2 * (es.length : Int) < 0) := by omega
  have a2 : ¬ (1 + 2 * (l.length : Int) + (L.length : Int) < 0) := by omega
  have a3 : (b != b) = false := by cases b <;> rfl
  refine ⟨K + 5, ?_⟩
  simp only [laws_FnExactInducedGraph.f, laws_FnExactInducedGraph.j0, laws_FnExactInducedGraph.j1, laws_FnExactInducedGraph.j2, sz_small s l hlen, e1, e2, e3, e4, e5, e6, e7, e8, e9, e10, e11, a1, a2, a3, hbig, hL, Option.bind_some, if_true, if_false, Bool.false_eq_true]

end Go.Proofs.Yteepmbpmhaaonaa.Pure
