/- The pure law FnExactDegreesOf: a mask's count of bits is the number of the nodes near. -/
import Derived.Test.YteepmbpmhaaonaaGrS
import Derived.Test.YteepmbpmhaaonaaGrI
import Derived.Test.YteepmbpmhaaonaaGrB
import Derived.Test.YteepmbpmhaaonaaPx31
namespace Go.Proofs.Yteepmbpmhaaonaa.Pure
open Go.RowKit Go.Proofs.Yteepmbpmhaaonaa.P Go.Proofs.YteepmbpmhaaonaaW.PrintWords Go.Proofs.YteepmbpmhaaonaaW.PrintLast Go.Proofs.YteepmbpmhaaonaaW.PrintMore Go.Proofs.Yteepmbpmhaaonaa.Gr

theorem ones_all : ((List.range 256).all fun m => bits_OnesCount.f (IntKind.u64.wrap m) == some ((nbF (bit m) 8 0).length : Int)) = true := by kernel_rfl
theorem ones_eq (m : Int) (h0 : 0 ≤ m) (h1 : m < 256) : bits_OnesCount.f (IntKind.u64.wrap m) = some ((nbF (bit m) 8 0).length : Int) := by
  have h := List.all_eq_true.1 ones_all m.toNat (List.mem_range.2 (by omega))
  rw [Int.toNat_of_nonneg h0, beq_iff_eq] at h
  exact h

/-- The degrees of d nodes from u on. -/
def degF (l : List S65) (s : Int) : Nat → Int → List Int
  | 0, _ => []
  | d + 1, u => ((nbF (near l u) s.toNat 0).length : Int) :: degF l s d (u + 1)
theorem degF_len (l : List S65) (s : Int) : ∀ d u, (degF l s d u).length = d
  | 0, _ => rfl
  | d + 1, u => by unfold degF; rw [List.length_cons, degF_len l s d (u + 1)]

theorem deg_spec (s : Int) (l : List S65) (hl : l.length ≤ 1048576) (h0 : 0 ≤ s) (hn : s ≤ 1000) : ∀ (d : Nat) (u : Int) (acc : List Int), 0 ≤ u → s - u = d → (acc.length : Int) ≤ u →
    Ev (fun k => spec_DegreesOf.l0 k acc u s l) (acc ++ degF l s d u, true) := by
  intro d
  induction d with
  | zero =>
    intro u acc hu hd ha
    rw [show degF l s 0 u = [] from rfl, List.append_nil]
    refine Ev.step (f := fun _ => some (acc, true)) (fun k => ?_) (Ev.now _)
    simp only [spec_DegreesOf.l0]
    rw [if_neg (by omega)]
  | succ d ih =>
    intro u acc hu hd ha
    have hw : wrap64 (u + 1) = u + 1 := by unfold wrap64; omega
    have hr := ih (u + 1) (acc ++ [((nbF (near l u) s.toNat 0).length : Int)]) (by omega) (by omega) (by rw [List.length_append, List.length_singleton]; omega)
    have e : acc ++ degF l s (d + 1) u = acc ++ [((nbF (near l u) s.toNat 0).length : Int)] ++ degF l s d (u + 1) := by
      conv => lhs; unfold degF
      simp
    rw [e]
    have hnb : Ev (fun k => spec_l2Neighbors.f k s l u) (nbF (near l u) s.toNat 0) := nbs_spec s l hl hn u s.toNat 0 [] (by omega) (by omega) (by simp)
    refine Ev.step (f := fun k => (spec_l2Neighbors.f k s l u).bind fun t => if acc.length < 17592186044416 then spec_DegreesOf.l0 k (acc ++ [(t.length : Int)]) (u + 1) s l else none) (fun k => ?_) (Ev.bind hnb ?_)
    · simp only [spec_DegreesOf.l0]
      rw [if_pos (by omega), hw]
    · refine Ev.congr (fun k => ?_) hr
      rw [if_pos (by omega)]

theorem deg_impl (s : Int) (l : List S65) (hG : Gr.Good s l) (m : List Int) (hm : Masks s m) (hb : ∀ u v : Int, 0 ≤ u → u < s → 0 ≤ v → v < 8 → bit (rd m u) v = near l u v) :
    ∀ (d : Nat) (u : Int) (pre rest : List Int), 0 ≤ u → s - u = d → (pre.length : Int) = u → rest.length = d → Ev (fun k => impl_DegreesOf.l0 k (pre ++ rest) m m.length u) (pre ++ degF l s d u, true) := by
  have h8 := hG.2.1
  have hs0 := hG.1
  have hml := hm.1
  intro d
  induction d with
  | zero =>
    intro u pre rest hu hd hp hr
    obtain rfl := List.eq_nil_of_length_eq_zero hr
    refine Ev.step (f := fun _ => some (pre ++ [], true)) (fun k => ?_) (Ev.now _)
    simp only [impl_DegreesOf.l0]
    rw [if_neg (by omega)]
  | succ d ih =>
    intro u pre rest hu hd hp hr
    have hw : wrap64 (u + 1) = u + 1 := by unfold wrap64; omega
    obtain ⟨x, rest', rfl⟩ : ∃ x r', rest = x :: r' := by
      cases rest with
      | nil => simp at hr
      | cons x r' => exact ⟨x, r', rfl⟩
    have hr' : rest'.length = d := by simpa using hr
    have hih := ih (u + 1) (pre ++ [((nbF (near l u) s.toNat 0).length : Int)]) rest' (by omega) (by omega) (by rw [List.length_append, List.length_singleton]; omega) hr'
    have e : pre ++ degF l s (d + 1) u = pre ++ [((nbF (near l u) s.toNat 0).length : Int)] ++ degF l s d (u + 1) := by
      conv => lhs; unfold degF
      simp
    rw [e]
    have hmu := hm.2 u hu (by omega)
    have e1 : nbF (bit (rd m u)) 8 0 = nbF (near l u) 8 0 := nbF_congr _ _ 8 0 (fun z h1 h2 => hb u z hu (by omega) h1 (by omega))
    have e2 : nbF (near l u) 8 0 = nbF (near l u) s.toNat 0 := by
      have := nbF_cut (near l u) s.toNat (8 - s.toNat) 0 (fun z h1 => near_out s l hG u z (by omega))
      rw [← this]
      congr 1
      omega
    have hc : bits_OnesCount.f (IntKind.u64.wrap (rd m u)) = some ((nbF (near l u) s.toNat 0).length : Int) := by
      rw [ones_eq (rd m u) hmu.1 hmu.2, e1, e2]
    refine Ev.step (fun k => ?_) hih
    simp only [impl_DegreesOf.l0]
    rw [if_pos (by omega), if_pos hu, if_pos (by omega), hc, Option.bind_some, if_pos (by rw [List.length_append, List.length_cons]; omega), hw]
    congr 1
    rw [List.set_append_right _ _ (by omega), show u.toNat - pre.length = 0 by omega]
    simp

theorem deg_both (s : Int) (l : List S65) (hl : l.length ≤ 1048576) : ∃ es b, es.length ≤ 1048576 ∧ Ev (fun k => spec_DegreesOf.f k s l) (es, b) ∧ Ev (fun k => impl_DegreesOf.f k s l) (es, b) := by
  obtain ⟨b, hg, hS, hI⟩ := isGraph_both s l hl
  cases b with
  | false =>
    refine ⟨[], false, by simp, ?_, ?_⟩
    · refine Ev.congr (f := fun k => (spec_l2Good.f k s l).bind fun t => if t = true then spec_DegreesOf.l0 k [] 0 s l else some ([], false)) (fun k => rfl) (Ev.bind hS (Ev.congr (fun k => ?_) (Ev.now _)))
      rfl
    · refine Ev.bind hI (Ev.congr (fun k => ?_) (Ev.now _))
      rfl
  | true =>
    have hG := hg rfl
    have h8 := hG.2.1
    have h0 := hG.1
    obtain ⟨m, hm, hb, hN⟩ := net_ev s l hl hG
    refine ⟨degF l s s.toNat 0, true, by rw [degF_len]; omega, ?_, ?_⟩
    · refine Ev.congr (f := fun k => (spec_l2Good.f k s l).bind fun t => if t = true then spec_DegreesOf.l0 k [] 0 s l else some ([], false)) (fun k => rfl) (Ev.bind hS (Ev.congr (fun k => ?_) (deg_spec s l hl h0 (by omega) s.toNat 0 [] (by omega) (by omega) (by simp))))
      rw [if_pos rfl]
    · have hi := deg_impl s l hG m hm hb s.toNat 0 [] (List.replicate s.toNat 0) (by omega) (by omega) (by simp) (by simp)
      refine Ev.bind hI (Ev.congr (f := fun k => (impl_netOf.f k s l).bind fun t636 => impl_DegreesOf.l0 k (List.replicate s.toNat 0) t636 (t636.length : Int) 0) (fun k => ?_) (Ev.bind hN hi))
      rw [if_pos rfl, if_pos h0, if_pos (by omega)]

theorem FnExactDegreesOf : laws_FnExactDegreesOf.Pure := by
  intro s l hs hl hx
  by_cases hbig : (1048576 : Int) - l.length < 0
  · refine ⟨0, ?_⟩
    unfold laws_FnExactDegreesOf.f
    rw [sz_big s l hl hbig]
    rfl
  have hlen : l.length ≤ 1048576 := by omega
  obtain ⟨es, b, hes, ⟨K1, h1⟩, ⟨K2, h2⟩⟩ := deg_both s l hlen
  obtain ⟨K3, h3⟩ := toGraph_ev s l hlen
  obtain ⟨K4, h4⟩ := eqGraph_ev s l hlen
  obtain ⟨K5, h5⟩ := eqI_ev es hes
  obtain ⟨r, ⟨K6, h6⟩, ⟨K7, h7⟩⟩ := mark_heldI es hes
  obtain ⟨r', ⟨K8, h8⟩, _⟩ := mark_held s l hlen
  dsimp only at h1 h2 h3 h4 h5 h6 h7 h8
  obtain ⟨K, q1, q2, q3, q4, q5, q6, q7, q8⟩ : ∃ K, K1 ≤ K ∧ K2 ≤ K ∧ K3 ≤ K ∧ K4 ≤ K ∧ K5 ≤ K ∧ K6 ≤ K ∧ K7 ≤ K ∧ K8 ≤ K := ⟨K1 + K2 + K3 + K4 + K5 + K6 + K7 + K8, by omega, by omega, by omega, by omega, by omega, by omega, by omega, by omega⟩
  have e1 : ∀ k, spec_DegreesOf.f (K + k) s l = some (es, b) := fun k => h1 _ (by omega)
  have e2 : ∀ k, impl_DegreesOf.f (K + k) s l = some (es, b) := fun k => h2 _ (by omega)
  have e3 : ∀ k, laws_toGraph.f (K + k) s l = some (s, l) := fun k => h3 _ (by omega)
  have e4 : ∀ k, laws_eqGraph.f (K + k) s l s l = some true := fun k => h4 _ (by omega)
  have e5 : ∀ k, laws_eqIntS.f (K + k) es es = some true := fun k => h5 _ (by omega)
  have e6 : ∀ k, laws_markIntS.f (K + k) es 1 = some (1 + (es.length : Int), r) := fun k => h6 _ (by omega)
  have e7 : ∀ k, laws_heldIntS.f (K + k) r 1 = some (1 + (es.length : Int)) := fun k => h7 _ (by omega)
  have e8 : ∀ k, laws_markGraph.f (K + k) s l 1 = some (1 + 2 * (l.length : Int), r') := fun k => h8 _ (by omega)
  have a1 : ¬ (1 + (es.length : Int) < 0) := by omega
  have a2 : ¬ (1 + 2 * (l.length : Int) < 0) := by omega
  have a3 : (b != b) = false := by cases b <;> rfl
  refine ⟨K + 5, ?_⟩
  simp only [laws_FnExactDegreesOf.f, laws_FnExactDegreesOf.j0, laws_FnExactDegreesOf.j1, laws_FnExactDegreesOf.j2, sz_small s l hlen, e1, e2, e3, e4, e5, e6, e7, e8, a1, a2, a3, hbig, Option.bind_some, if_true, if_false, Bool.false_eq_true]

end Go.Proofs.Yteepmbpmhaaonaa.Pure
