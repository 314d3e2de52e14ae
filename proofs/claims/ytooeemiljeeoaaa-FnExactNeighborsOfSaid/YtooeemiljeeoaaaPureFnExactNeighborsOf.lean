/- The pure law FnExactNeighborsOf: the set of the node's mask is the list of the nodes near it. -/
import Derived.Test.YtooeemiljeeoaaaGrS
import Derived.Test.YtooeemiljeeoaaaGrI
import Derived.Test.YtooeemiljeeoaaaGrB
import Derived.Test.YtooeemiljeeoaaaPx23
namespace Go.Proofs.Ytooeemiljeeoaaa.Pure
open Go.RowKit Go.Proofs.Ytooeemiljeeoaaa.P Go.Proofs.YtooeemiljeeoaaaW.PrintWords Go.Proofs.YtooeemiljeeoaaaW.PrintLast Go.Proofs.YtooeemiljeeoaaaW.PrintMore Go.Proofs.Ytooeemiljeeoaaa.Gr

theorem within_eq (a lo hi : Int) : impl_within.f a lo hi = some (decide (lo ≤ a ∧ a ≤ hi)) := by
  unfold impl_within.f
  by_cases h : a ≥ lo
  · rw [if_pos h]
    simp [show lo ≤ a from h]
  · rw [if_neg h]
    simp [show ¬ lo ≤ a from h]

theorem one_within (v hi : Int) : Ev (fun k => impl_allWithin.f k [v] 0 hi) (decide (0 ≤ v ∧ v ≤ hi)) := by
  refine ⟨2, fun k hk => ?_⟩
  obtain ⟨k, rfl⟩ : ∃ m, k = m + 2 := ⟨k - 2, by omega⟩
  dsimp only
  have hw : wrap64 (0 + 1) = 1 := by unfold wrap64; omega
  unfold impl_allWithin.f
  simp only [impl_allWithin.l0, within_eq, Option.bind_some, hw, decide_eq_true_eq]
  have r0 : rd [v] 0 = v := rfl
  have l1 : (([v] : List Int).length : Int) = 1 := rfl
  rw [r0, l1, if_pos (by omega), if_pos (by omega), if_pos (by omega)]
  by_cases h : 0 ≤ v ∧ v ≤ hi
  · rw [if_pos h, if_neg (by omega), decide_eq_true h]
  · rw [if_neg h, decide_eq_false h]

theorem nbs_both (s : Int) (l : List S57) (v : Int) (hl : l.length ≤ 1048576) : ∃ es b, es.length ≤ 1048576 ∧ Ev (fun k => spec_NeighborsOf.f k s l v) (es, b) ∧ Ev (fun k => impl_NeighborsOf.f k s l v) (es, b) := by
  obtain ⟨b, hg, hS, hI⟩ := isGraph_both s l hl
  cases b with
  | false =>
    refine ⟨[], false, by simp, ?_, ?_⟩
    · refine Ev.bind hS (Ev.congr (fun k => ?_) (Ev.now _))
      rfl
    · refine Ev.bind (a := false) ?_ (Ev.congr (fun k => ?_) (Ev.now _))
      · refine Ev.bind hI (Ev.congr (fun k => ?_) (Ev.now _))
        rfl
      · rfl
  | true =>
    have hG := hg rfl
    have h8 := hG.2.1
    have h0 := hG.1
    have hw : wrap64 (s - 1) = s - 1 := by unfold wrap64; omega
    have hH : Ev (fun k => impl_hasNodes.f k s l [v]) (decide (0 ≤ v ∧ v ≤ s - 1)) := by
      refine Ev.bind hI (Ev.congr (f := fun k => (impl_allWithin.f k [v] 0 (wrap64 (s - 1))).bind fun t => some t) (fun k => ?_) (Ev.bind (a := decide (0 ≤ v ∧ v ≤ s - 1)) ?_ (Ev.now _)))
      · rw [if_pos rfl]
      · rw [hw]
        exact one_within v (s - 1)
    have hnode : spec_l2Node.f s l v = some (decide (0 ≤ v ∧ v ≤ s - 1)) := by
      unfold spec_l2Node.f
      rw [l1In_eq, hw]
      rfl
    by_cases hv : 0 ≤ v ∧ v ≤ s - 1
    · rw [decide_eq_true hv] at hH hnode
      obtain ⟨m, hm, hb, hN⟩ := net_ev s l hl hG
      refine ⟨nbF (near l v) s.toNat 0, true, by have := nbF_len (near l v) s.toNat 0; omega, ?_, ?_⟩
      · refine Ev.bind hS (Ev.congr (f := fun k => (spec_l2Neighbors.f k s l v).bind fun t => some (t, true)) (fun k => ?_) (Ev.bind (a := nbF (near l v) s.toNat 0) ?_ (Ev.now _)))
        · rw [if_pos rfl, hnode, Option.bind_some, if_pos rfl]
        · have := nbs_spec s l hl (by omega) v s.toNat 0 [] (by omega) (by omega) (by simp)
          exact this
      · refine Ev.bind hH (Ev.congr (f := fun k => (impl_netOf.f k s l).bind fun t => if 0 ≤ v then (if v < (t.length : Int) then (impl_setOf.f k (rd t v)).bind fun t683 => some (t683, true) else none) else none) (fun k => ?_) (Ev.bind hN (Ev.congr (f := fun k => (impl_setOf.f k (rd m v)).bind fun t683 => some (t683, true)) (fun k => ?_) (Ev.bind (nbs_ev s l hG m hm hb v hv.1 (by omega)) (Ev.now _)))))
        · rw [if_pos rfl]
        · rw [if_pos hv.1, if_pos (by rw [hm.1]; omega)]
    · rw [decide_eq_false hv] at hH hnode
      refine ⟨[], false, by simp, ?_, ?_⟩
      · refine Ev.bind hS (Ev.congr (f := fun _ => some ([], false)) (fun k => ?_) (Ev.now _))
        rw [if_pos rfl, hnode]
        rfl
      · refine Ev.bind hH (Ev.congr (f := fun _ => some ([], false)) (fun k => ?_) (Ev.now _))
        rw [if_neg (by decide)]

theorem FnExactNeighborsOf : laws_FnExactNeighborsOf.Pure := by
  intro s l v hs hl hx hv
  by_cases hbig : (1048576 : Int) - l.length < 0
  · refine ⟨0, ?_⟩
    unfold laws_FnExactNeighborsOf.f
    rw [sz_big s l hl hbig]
    rfl
  have hlen : l.length ≤ 1048576 := by omega
  obtain ⟨es, b, hes, ⟨K1, h1⟩, ⟨K2, h2⟩⟩ := nbs_both s l v hlen
  obtain ⟨K3, h3⟩ := toGraph_ev s l hlen
  obtain ⟨K4, h4⟩ := eqGraph_ev s l hlen
  obtain ⟨K5, h5⟩ := eqI_ev es hes
  obtain ⟨r, ⟨K6, h6⟩, ⟨K7, h7⟩⟩ := mark_heldI es hes
  obtain ⟨r', ⟨K8, h8⟩, _⟩ := mark_held s l hlen
  dsimp only at h1 h2 h3 h4 h5 h6 h7 h8
  obtain ⟨K, q1, q2, q3, q4, q5, q6, q7, q8⟩ : ∃ K, K1 ≤ K ∧ K2 ≤ K ∧ K3 ≤ K ∧ K4 ≤ K ∧ K5 ≤ K ∧ K6 ≤ K ∧ K7 ≤ K ∧ K8 ≤ K := ⟨K1 + K2 + K3 + K4 + K5 + K6 + K7 + K8, by omega, by omega, by omega, by omega, by omega, by omega, by omega, by omega⟩
  have e1 : ∀ k, spec_NeighborsOf.f (K + k) s l v = some (es, b) := fun k => h1 _ (by omega)
  have e2 : ∀ k, impl_NeighborsOf.f (K + k) s l v = some (es, b) := fun k => h2 _ (by omega)
  have e3 : ∀ k, laws_toGraph.f (K + k) s l = some (s, l) := fun k => h3 _ (by omega)
  have e4 : ∀ k, laws_eqGraph.f (K + k) s l s l = some true := fun k => h4 _ (by omega)
  have e5 : ∀ k, laws_eqIntS.f (K + k) es es = some true := fun k => h5 _ (by omega)
  have e6 : ∀ k, laws_markIntS.f (K + k) es 1 = some (1 + (es.length : Int), r) := fun k => h6 _ (by omega)
  have e7 : ∀ k, laws_heldIntS.f (K + k) r 1 = some (1 + (es.length : Int)) := fun k => h7 _ (by omega)
  have e8 : ∀ k, laws_markGraph.f (K + k) s l 1 = some (1 + 2 * (l.length : Int), r') := fun k => h8 _ (by omega)
  have a1 : ¬ (1 + (es.length : Int) < 0) := by omega
  have a2 : ¬ (1 + 2 * (l.length : Int) < 0) := by omega
  have a3 : (b != b) = false := by cases b <;> rfl
  refine ⟨K + 5, ?_⟩
  simp only [laws_FnExactNeighborsOf.f, laws_FnExactNeighborsOf.j0, laws_FnExactNeighborsOf.j1, laws_FnExactNeighborsOf.j2, sz_small s l hlen, e1, e2, e3, e4, e5, e6, e7, e8, a1, a2, a3, hbig, Option.bind_some, if_true, if_false, Bool.false_eq_true]

end Go.Proofs.Ytooeemiljeeoaaa.Pure
