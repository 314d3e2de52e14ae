/- The pure law FnExactDismantlingOf: both take corners away, the least one first, down to one node. -/
import Derived.Test.YtbnhckhbjoldcaaGrR
import Derived.Test.YtbnhckhbjoldcaaGrSo
import Derived.Test.YtbnhckhbjoldcaaGrJ
import Derived.Test.YtbnhckhbjoldcaaGrB
import Derived.KernelRfl
import Derived.Test.YtbnhckhbjoldcaaPxImplDismantlingOf
import Derived.Test.YtbnhckhbjoldcaaPxLawsFnExactDismantlingOf
import Derived.Test.YtbnhckhbjoldcaaPxSpecDismantlingOf
namespace Go.Proofs.Ytbnhckhbjoldcaa.Pure
open Go.RowKit Go.Proofs.Ytbnhckhbjoldcaa.P Go.Proofs.YtbnhckhbjoldcaaW.PrintWords Go.Proofs.YtbnhckhbjoldcaaW.PrintLast Go.Proofs.YtbnhckhbjoldcaaW.PrintMore Go.Proofs.Ytbnhckhbjoldcaa.Gr

theorem one_of_all : ((List.range 256).all fun c => c == 0 || ((Go.bits .and .i64 c (wrap64 (c - 1)) == 0) == (((V 8).filter (bit c)).length == 1))) = true := by kernel_rfl
theorem one_of (c : Int) (h0 : 0 < c) (h1 : c < 256) : Go.bits .and .i64 c (wrap64 (c - 1)) = 0 ↔ ((V 8).filter (bit c)).length = 1 := by
  have h := List.all_eq_true.1 one_of_all c.toNat (List.mem_range.2 (by omega))
  rw [Int.toNat_of_nonneg (by omega), show (c.toNat == 0) = false by rw [beq_eq_false_iff_ne]; omega, Bool.false_or, beq_iff_eq, Bool.eq_iff_iff, beq_iff_eq, beq_iff_eq] at h
  exact h
theorem isM_list {s : Int} {P : Int → Bool} {m : Int} (h8 : s ≤ 8) (hM : IsM s P m) : (V 8).filter (bit m) = (V s).filter P := by
  refine up_ext (filter_up (V_up _) _) (filter_up (V_up _) _) (fun v => ?_)
  rw [mem_VF, mem_VF]
  constructor
  · rintro ⟨h1, h2⟩
    rw [hM.2 v h1.1 h1.2, Bool.and_eq_true, decide_eq_true_eq] at h2
    exact ⟨⟨h1.1, h2.1⟩, h2.2⟩
  · rintro ⟨h1, h2⟩
    refine ⟨⟨h1.1, by omega⟩, ?_⟩
    rw [hM.2 v h1.1 (by omega), decide_eq_true h1.2, h2]
    rfl

/-- A corner is beside another node. -/
theorem corn_two {s : Int} {l : List S82} {P : Int → Bool} {x : Int} {t : List Int} (h : corn s l P = x :: t) : ∃ y, y ≠ x ∧ y ∈ (V s).filter P := by
  have hx := corn_head h
  obtain ⟨y, t', hy⟩ := hasC_iff.1 hx.2.2
  have hC : Cov s l P x y := mem_covs.1 (by rw [hy]; exact List.mem_cons_self)
  exact ⟨y, fun e => hC.1 e.symm, mem_VF.2 ⟨hC.2.1, hC.2.2.1⟩⟩
theorem corn_small {s : Int} {l : List S82} {P : Int → Bool} (h : ((V s).filter P).length ≤ 1) : corn s l P = [] := by
  cases hc : corn s l P with
  | nil => rfl
  | cons x t =>
    obtain ⟨y, hne, hy⟩ := corn_two hc
    have hx := corn_head hc
    have h2 := nodup_le (a := [x, y]) (b := (V s).filter P) (List.nodup_cons.2 ⟨by rw [List.mem_singleton]; exact fun e => hne e.symm, List.nodup_cons.2 ⟨by simp, List.nodup_nil⟩⟩) (fun z hz => by
      rcases List.mem_cons.1 hz with e | e
      · rw [e]; exact mem_VF.2 ⟨hx.1, hx.2.1⟩
      · rw [List.mem_singleton.1 e]; exact hy)
    simp at h2
    omega
theorem strip_some (s : Int) (l : List S82) : ∀ (n : Nat) (P : Int → Bool), 0 < ((V s).filter P).length → 0 < ((V s).filter (stripF s l n P).2).length := by
  intro n
  induction n with
  | zero => exact fun P h => h
  | succ n ih =>
    intro P h
    cases hc : corn s l P with
    | nil => rw [stripF_nil hc]; exact h
    | cons x t =>
      rw [stripF_cons hc]
      obtain ⟨y, hne, hy⟩ := corn_two hc
      have hy' := mem_VF.1 hy
      refine ih _ (List.length_pos_of_mem (mem_VF.2 ⟨hy'.1, ?_⟩))
      unfold without
      rw [hy'.2, show (y == x) = false by rw [beq_eq_false_iff_ne]; exact hne]
      rfl

theorem can_ev (s : Int) (l : List S82) (hl : l.length ≤ 1048576) (hG : Gr.Good s l) : ∀ (n : Nat) (P : Int → Bool), ((V s).filter P).length ≤ n → Ev (fun k => spec_l3Can.l0 k ((V s).filter P) s l) (decide (((V s).filter (stripF s l n P).2).length = 1)) := by
  intro n
  have h8 := hG.2.1
  induction n with
  | zero =>
    intro P h
    refine Cm.ev (Cm.step (fun k => by simp only [spec_l3Can.l0, if_neg (show ¬ (((V s).filter P).length : Int) > 1 by omega)]; try rfl) (Cm.now ?_))
    rw [show (stripF s l 0 P).2 = P from rfl, decide_eq_false (by omega), beq_eq_false_iff_ne]
    omega
  | succ n ih =>
    intro P h
    by_cases hg : (((V s).filter P).length : Int) > 1
    · refine Cm.ev (Cm.step (fun k => by simp only [spec_l3Can.l0, if_pos hg]; try rfl) (Cm.bindE (corners_spec s l hl hG P) ?_))
      cases hc : corn s l P with
      | nil =>
        have e0 : (stripF s l (n + 1) P).2 = P := by rw [stripF_nil hc]
        rw [e0]
        refine Cm.pos rfl (Cm.now ?_)
        rw [decide_eq_false (by omega)]
      | cons x t =>
        have hx := corn_head hc
        rw [stripF_cons hc]
        refine Cm.neg (by rw [List.length_cons]; omega) (Cm.pos (by rw [List.length_cons]; omega) ?_)
        rw [show rd (x :: t) 0 = x from rfl]
        have hw := without_len (s := s) hx.1 hx.2.1
        exact Cm.bindE (without_ev s x P h8) (Ev.cm (ih _ (by omega)))
    · refine Cm.ev (Cm.step (fun k => by simp only [spec_l3Can.l0, if_neg hg]; try rfl) (Cm.now ?_))
      have e0 : (stripF s l (n + 1) P).2 = P := by rw [stripF_nil (corn_small (by omega))]
      rw [e0, Bool.eq_iff_iff, beq_iff_eq, decide_eq_true_eq]
      omega

theorem order_spec (s : Int) (l : List S82) (hl : l.length ≤ 1048576) (hG : Gr.Good s l) : ∀ (n : Nat) (P : Int → Bool) (acc : List Int), ((V s).filter P).length ≤ n → ((V s).filter (stripF s l n P).2).length = 1 → acc.length + n ≤ 1000 →
    Ev (fun k => spec_DismantlingOf.l0 k acc ((V s).filter P) s l) (acc ++ (stripF s l n P).1.map (fun e => e.f0) ++ (V s).filter (stripF s l n P).2, true) := by
  intro n
  have h8 := hG.2.1
  induction n with
  | zero =>
    intro P acc h h1 _
    rw [show (stripF s l 0 P).2 = P from rfl] at h1
    omega
  | succ n ih =>
    intro P acc h h1 ha
    by_cases hg : (((V s).filter P).length : Int) > 1
    · refine Cm.ev (Cm.step (fun k => by simp only [spec_DismantlingOf.l0, if_pos hg]; try rfl) (Cm.bindE (corners_spec s l hl hG P) ?_))
      cases hc : corn s l P with
      | nil =>
        have e0 : (stripF s l (n + 1) P).2 = P := by rw [stripF_nil hc]
        rw [e0] at h1
        omega
      | cons x t =>
        have hx := corn_head hc
        rw [stripF_cons hc] at h1 ⊢
        refine Cm.pos (by rw [List.length_cons]; omega) (Cm.pos (by omega) ?_)
        rw [show rd (x :: t) 0 = x from rfl]
        have hw := without_len (s := s) hx.1 hx.2.1
        have e := ih (without P x) (acc ++ [x]) (by omega) h1 (by rw [List.length_append, List.length_singleton]; omega)
        refine Cm.bindE (without_ev s x P h8) (Cm.of e ?_)
        rw [List.map_cons, List.append_assoc acc [x]]
        rfl
    · have hc : corn s l P = [] := corn_small (by omega)
      rw [stripF_nil hc] at h1 ⊢
      obtain ⟨x, hx⟩ := List.length_eq_one_iff.1 h1
      dsimp only at hx
      rw [hx]
      refine Cm.ev (Cm.step (fun k => by simp only [spec_DismantlingOf.l0, if_neg (show ¬ (([x] : List Int).length : Int) > 1 by simp)]; try rfl) (Cm.pos (by simp) (Cm.pos (by omega) (Cm.now ?_))))
      rw [List.map_nil, List.append_nil]
      rfl

theorem order_impl (s : Int) (P : Int → Bool) (m : Int) (h8 : s ≤ 8) (hM : IsM s P m) (a : List S82) (ha : a.length ≤ 8) : Ev (fun k => impl_DismantlingOf.l0 k m [] a a.length 0) (a.map (fun e => e.f0) ++ (V s).filter P, true) := by
  refine Cm.ev (Cm.up (fun k i b => impl_DismantlingOf.l0 k m b a a.length i) a.length (fun i b => 0 ≤ i ∧ b = (a.take i.toNat).map (fun e => e.f0)) _ ?_ 0 [] (by omega) ⟨by omega, rfl⟩)
  rintro i b hi ⟨i0, rfl⟩ ih
  have hbl : ((a.take i.toNat).map (fun e => e.f0)).length ≤ a.length := by rw [List.length_map, List.length_take]; omega
  by_cases h : i < (a.length : Int)
  · refine Cm.step (fun k => by simp (disch := omega) only [impl_DismantlingOf.l0, if_pos h, if_pos i0, w64 (i + 1)]; try rfl) ?_
    refine Cm.pos (by omega) (ih _ h ⟨by omega, ?_⟩)
    rw [takeT a i i0 h, List.map_append]
    rfl
  · have hf : ((V s).filter P).length ≤ s.toNat := VF_len
    refine Cm.step (fun k => by simp only [impl_DismantlingOf.l0, if_neg h]; try rfl) (Cm.bindE (setP_ev m hM.1 s h8 P hM.2) ?_)
    refine Cm.pos (by omega) (Cm.now ?_)
    rw [takeT_all a i (by omega)]

theorem both (s : Int) (l : List S82) (hl : l.length ≤ 1048576) : ∃ r b, r.length ≤ 1048576 ∧ Ev (fun k => spec_DismantlingOf.f k s l) (r, b) ∧ Ev (fun k => impl_DismantlingOf.f k s l) (r, b) := by
  obtain ⟨b, hb, hS, hI⟩ := isGraph_full s l hl
  have hSo := some_ev s l b hS
  have iJ : Cm (fun k => impl_DismantlingOf.j0 k true s l) (fun z => z = ([], false)) := Cm.step (fun k => by simp only [impl_DismantlingOf.j0, if_true]; try rfl) (Cm.now rfl)
  have sJ : Cm (fun k => spec_DismantlingOf.j0 k [] true s l) (fun z => z = ([], false)) := Cm.step (fun k => by simp only [spec_DismantlingOf.j0, if_true]; try rfl) (Cm.now rfl)
  by_cases hc : b = true ∧ s > 0
  · obtain ⟨rfl, hs⟩ := hc
    obtain ⟨hG, hO⟩ := hb rfl
    have h8 := hG.2.1
    have h0 := hG.1
    obtain ⟨r, hr, hbit, hN⟩ := net_ev s l hl hG
    obtain ⟨a, P, m, ha, hM, hst, e1, e2⟩ := strip_both s l hl hG r ⟨hr, hbit⟩
    rw [Bool.true_and, decide_eq_true hs] at hSo
    have hlen : ((V s).filter P).length ≤ s.toNat := VF_len
    have hlenA : ((V s).filter (fun _ => true)).length ≤ s.toNat := VF_len
    have hcan := can_ev s l hl hG 8 (fun _ => true) (by omega)
    have hpos := strip_some s l 8 (fun _ => true) (List.length_pos_of_mem (mem_VF.2 ⟨⟨Int.le_refl 0, hs⟩, rfl⟩))
    rw [← hst] at hcan hpos
    dsimp only at hcan hpos
    have hm0 : 0 < m := by
      obtain ⟨x, hx⟩ := List.exists_mem_of_length_pos hpos
      have hx' := mem_VF.1 hx
      have hbx := hM.2 x hx'.1.1 (by omega)
      rw [decide_eq_true hx'.1.2, hx'.2] at hbx
      have hne : m ≠ 0 := fun e => by
        rw [e, zero_ok.2 x hx'.1.1 (by omega)] at hbx
        exact Bool.noConfusion hbx
      have := hM.1
      omega
    have hone := one_of m hm0 hM.1.2
    rw [isM_list h8 hM] at hone
    have hz : (s == 0) = false := by rw [beq_eq_false_iff_ne]; omega
    by_cases h1 : ((V s).filter P).length = 1
    · have e3 := order_spec s l hl hG 8 (fun _ => true) [] (by omega) (by rw [← hst]; exact h1) (by simp)
      rw [← hst, List.nil_append] at e3
      refine ⟨a.map (fun e => e.f0) ++ (V s).filter P, true, by rw [List.length_append, List.length_map]; omega, Cm.ev ?_, Cm.ev ?_⟩
      · refine Cm.bindE (Ev.now _) (Cm.bindE hSo (Cm.pos rfl (Cm.bindE (all_ev s l h0 h8) (Cm.bindE (x := true) (Cm.ev ?_) ?_))))
        · unfold spec_l3Can.f
          exact Cm.of hcan (decide_eq_true h1)
        · exact Cm.step (fun k => by simp only [spec_DismantlingOf.j0, Bool.not_true, Bool.false_eq_true, if_false]; try rfl) (Cm.bindE (all_ev s l h0 h8) (Ev.cm e3))
      · refine Cm.bindE hI (Cm.pos rfl ?_)
        rw [hz]
        refine Cm.step (fun k => by simp only [impl_DismantlingOf.j0, Bool.false_eq_true, if_false]; try rfl) ?_
        exact Cm.bindE hN (Cm.bindE e2 (Cm.pos (hone.2 h1) (Ev.cm (order_impl s P m h8 hM a ha))))
    · refine ⟨[], false, by simp, Cm.ev ?_, Cm.ev ?_⟩
      · refine Cm.bindE (Ev.now _) (Cm.bindE hSo (Cm.pos rfl (Cm.bindE (all_ev s l h0 h8) (Cm.bindE (x := false) (Cm.ev ?_) sJ))))
        unfold spec_l3Can.f
        exact Cm.of hcan (decide_eq_false h1)
      · refine Cm.bindE hI (Cm.pos rfl ?_)
        rw [hz]
        refine Cm.step (fun k => by simp only [impl_DismantlingOf.j0, Bool.false_eq_true, if_false]; try rfl) ?_
        exact Cm.bindE hN (Cm.bindE e2 (Cm.neg (fun h => h1 (hone.1 h)) (Cm.now rfl)))
  · have hf : (b && decide (s > 0)) = false := by
      rw [Bool.and_eq_false_iff]
      by_cases hb' : b = true
      · exact .inr (decide_eq_false (fun h => hc ⟨hb', h⟩))
      · exact .inl (Bool.eq_false_iff.2 hb')
    rw [hf] at hSo
    refine ⟨[], false, by simp, Cm.ev ?_, Cm.ev ?_⟩
    · exact Cm.bindE (Ev.now _) (Cm.bindE hSo (Cm.neg (by decide) sJ))
    · refine Cm.bindE hI (Cm.ite (fun e => ?_) (fun _ => iJ))
      have hz : (s == 0) = true := by rw [beq_iff_eq]; have := (hb e).1.1; have h5 : ¬ s > 0 := fun h => hc ⟨e, h⟩; omega
      rw [hz]
      exact iJ

theorem FnExactDismantlingOf : laws_FnExactDismantlingOf.Pure := by
  intro s0 l0 hs0 hl0 hx0
  refine Ev.rounds (Cm.ev ?_)
  unfold laws_FnExactDismantlingOf.f
  by_cases c0 : (1048576 : Int) - l0.length < 0
  · exact Cm.bindE (sz_ev (sz_big s0 l0 hl0 c0)) (Cm.pos (by decide) (Cm.now rfl))
  refine Cm.bindE (sz_ev (sz_small s0 l0 (by omega))) (Cm.neg c0 ?_)
  obtain ⟨es, b, he, E1, E2⟩ := both s0 l0 (by omega)
  obtain ⟨r0, M0⟩ := mark_at s0 l0 ((1 : Int)) (by omega) (by omega) (by omega)
  obtain ⟨re, E3, E4⟩ := mark_heldI es (by omega)
  have a_b : ¬ (b != b) = true := by cases b <;> decide
  repeat first
    | with_reducible exact Cm.now rfl
    | refine Cm.bindE (toGraph_ev s0 l0 (by omega)) ?_
    | refine Cm.bindE E1 ?_
    | refine Cm.bindE E2 ?_
    | refine Cm.bindE (eqI_ev es (by omega)) (Cm.pos rfl ?_)
    | refine Cm.bindE (eqGraph_ev s0 l0 (by omega)) (Cm.pos rfl ?_)
    | refine Cm.bindE M0 ?_
    | refine Cm.bindE E3 ?_
    | refine Cm.bindE E4 ?_
    | refine Cm.neg a_b ?_
    | refine Cm.neg (by omega) ?_
    | refine Cm.pos (by omega) ?_
    | refine Cm.pos rfl ?_
    | dsimp only

end Go.Proofs.Ytbnhckhbjoldcaa.Pure
