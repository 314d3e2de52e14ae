/- The pure law FnExactRemoveNode: both lay the graph induced on the other nodes. -/
import Derived.Test.YteepmbpmhaaonaaGrD
import Derived.Test.YteepmbpmhaaonaaGrH
import Derived.Test.YteepmbpmhaaonaaGrB
import Derived.Test.YteepmbpmhaaonaaPx18
import Derived.KernelRfl
namespace Go.Proofs.Yteepmbpmhaaonaa.Pure
open Go.RowKit Go.Proofs.Yteepmbpmhaaonaa.P Go.Proofs.YteepmbpmhaaonaaW.PrintWords Go.Proofs.YteepmbpmhaaonaaW.PrintLast Go.Proofs.YteepmbpmhaaonaaW.PrintMore Go.Proofs.Yteepmbpmhaaonaa.Gr

/-- The other nodes. -/
def others (s v : Int) : List Int := ((List.range s.toNat).map Int.ofNat).filter fun z => z != v
theorem others_all : ((List.range 9).all fun s => (List.range s).all fun v => (spec_l2Bits.f 20 s (wrap64 ((shl .i64 1 s) - 1)) == some ((List.range s).map Int.ofNat) && spec_l2Without.f 20 ((List.range s).map Int.ofNat) v == some (others s v)) &&
    impl_setOf.f 20 (Go.bits .andNot .i64 (wrap64 ((shl .i64 1 s) - 1)) (shl .i64 1 v)) == some (others s v)) = true := by kernel_rfl
theorem others_ok (s v : Int) (h8 : s ≤ 8) (hv0 : 0 ≤ v) (hvs : v < s) : (spec_l2Bits.f 20 s (wrap64 ((shl .i64 1 s) - 1)) = some ((List.range s.toNat).map Int.ofNat) ∧ spec_l2Without.f 20 ((List.range s.toNat).map Int.ofNat) v = some (others s v)) ∧
    impl_setOf.f 20 (Go.bits .andNot .i64 (wrap64 ((shl .i64 1 s) - 1)) (shl .i64 1 v)) = some (others s v) := by
  have h := List.all_eq_true.1 others_all s.toNat (List.mem_range.2 (by omega))
  have h' := List.all_eq_true.1 h v.toNat (List.mem_range.2 (by omega))
  rw [Int.toNat_of_nonneg hv0, Int.toNat_of_nonneg (show 0 ≤ s by omega), Bool.and_eq_true, Bool.and_eq_true, beq_iff_eq, beq_iff_eq, beq_iff_eq] at h'
  exact h'
theorem others_mem (s v : Int) (x : Int) (h0 : 0 ≤ x) (h1 : x < (others s v).length) : 0 ≤ rd (others s v) x ∧ rd (others s v) x < s := by
  have hm : rd (others s v) x ∈ others s v := by
    unfold rd
    rw [List.getD_eq_getElem?_getD, List.getElem?_eq_getElem (by omega)]
    exact List.getElem_mem _
  have hm' := (List.mem_filter.1 hm).1
  obtain ⟨n, hn, e⟩ := List.mem_map.1 hm'
  have := List.mem_range.1 hn
  have e' : rd (others s v) x = (n : Int) := e.symm
  omega
theorem others_len (s v : Int) (h8 : s ≤ 8) : (others s v).length ≤ 8 := by
  have := List.length_filter_le (fun z => z != v) ((List.range s.toNat).map Int.ofNat)
  simp at this
  unfold others
  omega

theorem remove_both (s : Int) (l : List S65) (v : Int) (hl : l.length ≤ 1048576) : ∃ n es b, es.length ≤ 1048576 ∧ Ev (fun k => spec_RemoveNode.f k s l v) (n, es, b) ∧ Ev (fun k => impl_RemoveNode.f k s l v) (n, es, b) := by
  obtain ⟨b, hg, hS, hI⟩ := isGraph_both s l hl
  have hj : Ev (fun k => spec_RemoveNode.j0 k v true s l) (0, [], false) := by
    refine Ev.step (f := fun _ => some (0, [], false)) (fun k => ?_) (Ev.now _)
    simp only [spec_RemoveNode.j0, if_true]
  cases b with
  | false =>
    refine ⟨0, [], false, by simp, ?_, ?_⟩
    · refine Ev.bind hS (Ev.congr (fun k => ?_) hj)
      rw [if_neg (by decide)]
    · refine Ev.bind (has_not s l [v] hI) (Ev.congr (f := fun _ => some (0, [], false)) (fun k => ?_) (Ev.now _))
      rw [if_neg (by decide)]
  | true =>
    have hG := hg rfl
    have h8 := hG.2.1
    have h0 := hG.1
    have hH := has_one s l v hG hI
    have hnode := node_eq s l v hG
    by_cases hv : 0 ≤ v ∧ v < s
    · rw [decide_eq_true hv] at hH hnode
      obtain ⟨m, hm, hb, hN⟩ := net_ev s l hl hG
      obtain ⟨⟨o1, o2⟩, o3⟩ := others_ok s v h8 hv.1 hv.2
      have hlen := others_len s v h8
      have f1 : Ev (fun k => spec_l2All.f k s l) ((List.range s.toNat).map Int.ofNat) := by
        refine Ev.congr (f := fun k => (spec_l2Bits.f k s (wrap64 ((shl .i64 1 s) - 1))).bind fun t => some t) (fun k => ?_) (Ev.bind (Ev.of (fun k => spec_l2Bits.mono _ _ k) o1) (Ev.now _))
        unfold spec_l2All.f
        rw [if_pos h0]
      have f2 : Ev (fun k => spec_l2Without.f k ((List.range s.toNat).map Int.ofNat) v) (others s v) := Ev.of (fun k => spec_l2Without.mono _ _ k) o2
      have f3 : Ev (fun k => impl_setOf.f k (Go.bits .andNot .i64 (wrap64 ((shl .i64 1 s) - 1)) (shl .i64 1 v))) (others s v) := Ev.of (fun k => impl_setOf.mono _ k) o3
      refine ⟨((others s v).length : Int), pairs (nearAt l (others s v)) (others s v).length, true, by have := pairs_len (nearAt l (others s v)) (others s v).length (by omega); omega, ?_, ?_⟩
      · refine Ev.bind hS (Ev.congr (f := fun k => spec_RemoveNode.j0 k v false s l) (fun k => ?_) (Ev.step (f := fun k => (spec_l2All.f k s l).bind fun t310 => (spec_l2Without.f k t310 v).bind fun t313 => (spec_l2Induced.f k s l t313).bind fun bt316 => some (bt316.1, bt316.2, true)) (fun k => ?_) (Ev.bind f1 (Ev.bind f2 (Ev.bind (ind_spec s l hl (others s v) (by omega)) (Ev.now _))))))
        · rw [if_pos rfl, hnode]
          rfl
        · simp only [spec_RemoveNode.j0, Bool.false_eq_true, if_false]
      · refine Ev.bind hH (Ev.congr (f := fun k => (impl_netOf.f k s l).bind fun t340 => (impl_net_all.f t340).bind fun t344 => if 0 ≤ v then ((impl_setOf.f k (Go.bits .andNot .i64 t344 (shl .i64 1 v))).bind fun t345 => (impl_net_induced.f k t340 t345).bind fun bt348 => some (bt348.1, bt348.2, true)) else none) (fun k => ?_) (Ev.bind hN (Ev.congr (f := fun k => (impl_setOf.f k (Go.bits .andNot .i64 (wrap64 ((shl .i64 1 s) - 1)) (shl .i64 1 v))).bind fun t345 => (impl_net_induced.f k m t345).bind fun bt348 => some (bt348.1, bt348.2, true)) (fun k => ?_) (Ev.bind f3 (Ev.bind (ind_impl s l hG m hm hb (others s v) (by omega) (others_mem s v)) (Ev.now _))))))
        · rw [if_pos rfl]
        · unfold impl_net_all.f
          rw [Option.bind_some, if_pos hv.1, hm.1]
    · rw [decide_eq_false hv] at hH hnode
      refine ⟨0, [], false, by simp, ?_, ?_⟩
      · refine Ev.bind hS (Ev.congr (fun k => ?_) hj)
        rw [if_pos rfl, hnode]
        rfl
      · refine Ev.bind hH (Ev.congr (f := fun _ => some (0, [], false)) (fun k => ?_) (Ev.now _))
        rw [if_neg (by decide)]

theorem FnExactRemoveNode : laws_FnExactRemoveNode.Pure := by
  intro s l v hs hl hx hv
  by_cases hbig : (1048576 : Int) - l.length < 0
  · refine ⟨0, ?_⟩
    unfold laws_FnExactRemoveNode.f
    rw [sz_big s l hl hbig]
    rfl
  have hlen : l.length ≤ 1048576 := by omega
  obtain ⟨n, es, b, hes, ⟨K1, h1⟩, ⟨K2, h2⟩⟩ := remove_both s l v hlen
  obtain ⟨K3, h3⟩ := toGraph_ev s l hlen
  obtain ⟨K4, h4⟩ := eqGraph_ev s l hlen
  obtain ⟨K5, h5⟩ := eqGraph_ev n es hes
  obtain ⟨r, ⟨K6, h6⟩, ⟨K7, h7⟩⟩ := mark_held n es hes
  obtain ⟨r', ⟨K8, h8⟩, _⟩ := mark_held s l hlen
  dsimp only at h1 h2 h3 h4 h5 h6 h7 h8
  obtain ⟨K, q1, q2, q3, q4, q5, q6, q7, q8⟩ : ∃ K, K1 ≤ K ∧ K2 ≤ K ∧ K3 ≤ K ∧ K4 ≤ K ∧ K5 ≤ K ∧ K6 ≤ K ∧ K7 ≤ K ∧ K8 ≤ K := ⟨K1 + K2 + K3 + K4 + K5 + K6 + K7 + K8, by omega, by omega, by omega, by omega, by omega, by omega, by omega, by omega⟩
  have e1 : ∀ k, spec_RemoveNode.f (K + k) s l v = some (n, es, b) := fun k => h1 _ (by omega)
  have e2 : ∀ k, impl_RemoveNode.f (K + k) s l v = some (n, es, b) := fun k => h2 _ (by omega)
  have e3 : ∀ k, laws_toGraph.f (K + k) s l = some (s, l) := fun k => h3 _ (by omega)
  have e4 : ∀ k, laws_eqGraph.f (K + k) s l s l = some true := fun k => h4 _ (by omega)
  have e5 : ∀ k, laws_eqGraph.f (K + k) n es n es = some true := fun k => h5 _ (by omega)
  have e6 : ∀ k, laws_markGraph.f (K + k) n es 1 = some (1 + 2 * (es.length : Int), r) := fun k => h6 _ (by omega)
  have e7 : ∀ k, laws_heldGraph.f (K + k) n r 1 = some (1 + 2 * (es.length : Int)) := fun k => h7 _ (by omega)
  have e8 : ∀ k, laws_markGraph.f (K + k) s l 1 = some (1 + 2 * (l.length : Int), r') := fun k => h8 _ (by omega)
  have a1 : ¬ (1 + 2 * (es.length : Int) < 0) := by omega
  have a2 : ¬ (1 + 2 * (l.length : Int) < 0) := by omega
  have a3 : (b != b) = false := by cases b <;> rfl
  refine ⟨K + 5, ?_⟩
  simp only [laws_FnExactRemoveNode.f, laws_FnExactRemoveNode.j0, laws_FnExactRemoveNode.j1, laws_FnExactRemoveNode.j2, sz_small s l hlen, e1, e2, e3, e4, e5, e6, e7, e8, a1, a2, a3, hbig, Option.bind_some, if_true, if_false, Bool.false_eq_true]

end Go.Proofs.Yteepmbpmhaaonaa.Pure
