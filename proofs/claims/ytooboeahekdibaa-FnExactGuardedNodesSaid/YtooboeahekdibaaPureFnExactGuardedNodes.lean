/- The pure law FnExactGuardedNodes: both list the nodes of the cops' balls. -/
import Derived.Test.YtooboeahekdibaaGrAr
import Derived.Test.YtooboeahekdibaaGrWi
import Derived.Test.YtooboeahekdibaaGrH
import Derived.Test.YtooboeahekdibaaGrT
import Derived.Test.YtooboeahekdibaaGrJ
import Derived.Test.YtooboeahekdibaaGrZ
import Derived.Test.YtooboeahekdibaaGrB
import Derived.Test.YtooboeahekdibaaPxCmpLessInt
import Derived.Test.YtooboeahekdibaaPxImplAreCops
import Derived.Test.YtooboeahekdibaaPxImplGuardedNodes
import Derived.Test.YtooboeahekdibaaPxImplIsCopGame
import Derived.Test.YtooboeahekdibaaPxLawsFnExactGuardedNodes
import Derived.Test.YtooboeahekdibaaPxSlicesIsSortedIntInt
import Derived.Test.YtooboeahekdibaaPxSpecGuardedNodes
import Derived.Test.YtooboeahekdibaaPxSpecL1Put
import Derived.Test.YtooboeahekdibaaPxSpecL4Cops
import Derived.Test.YtooboeahekdibaaPxSpecL4Field
namespace Go.Proofs.Ytooboeahekdibaa.Pure
open Go.RowKit Go.Proofs.Ytooboeahekdibaa.P Go.Proofs.YtooboeahekdibaaW.PrintWords Go.Proofs.YtooboeahekdibaaW.PrintLast Go.Proofs.YtooboeahekdibaaW.PrintMore Go.Proofs.Ytooboeahekdibaa.Gr

theorem putAt_mem {l : List Int} {e : Int} (hu : Up l) (he : e ∈ l) : putAt l e = true := by
  obtain ⟨a, b, rfl⟩ := List.append_of_mem he
  have ha : ∀ x ∈ a, decide (x < e) = true := fun x hx => decide_eq_true ((List.pairwise_append.1 hu).2.2 x hx e List.mem_cons_self)
  unfold putAt
  rw [List.dropWhile_append_of_pos ha, List.dropWhile_cons_of_neg (by simp)]
  simp
theorem putT_ev (l : List Int) (e : Int) (hl : l.length ≤ 1048576) (hu : Up l) (he : e ∈ l) : Ev (fun k => spec_l1PutT.f k l e) l := by
  refine Cm.ev ?_
  unfold spec_l1PutT.f
  refine Cm.up (fun k i (_ : Unit) => spec_l1PutT.l0 k l e i) l.length (fun i _ => 0 ≤ i ∧ e ∈ l.drop i.toNat) _ ?_ 0 () (by omega) ⟨by omega, he⟩
  rintro i _ hi ⟨h0, hd⟩ ih
  have h : i < l.length := by
    by_cases h : i < l.length
    · exact h
    · rw [List.drop_eq_nil_of_le (by omega)] at hd
      cases hd
  have hcons : l.drop i.toNat = rd l i :: l.drop (i + 1).toNat := by
    rw [List.drop_eq_getElem_cons (by omega), show (i + 1).toNat = i.toNat + 1 by omega]
    have hr := rd_eq l i.toNat (by omega)
    rw [Int.toNat_of_nonneg h0] at hr
    rw [hr]
  have hu' : Up (l.drop i.toNat) := List.Pairwise.sublist (List.drop_sublist _ _) hu
  rw [hcons] at hd hu'
  by_cases hb : rd l i < e
  · refine Cm.step (fun k => by simp (disch := omega) only [spec_l1PutT.l0, w64 (i + 1), if_pos h, if_pos h0, if_pos hb]; try rfl) (ih () h ⟨by omega, ?_⟩)
    rcases List.mem_cons.1 hd with h' | h'
    · omega
    · exact h'
  · have e' : rd l i = e := by
      rcases List.mem_cons.1 hd with h' | h'
      · exact h'.symm
      · exact absurd ((List.pairwise_cons.1 hu').1 e h') hb
    exact Cm.step (fun k => by simp only [spec_l1PutT.l0, if_pos h, if_pos h0, if_neg hb, if_pos e']; try rfl) (Cm.now rfl)
theorem put_any (l : List Int) (e : Int) (hl : l.length ≤ 1048576) (hu : Up l) : Cm (fun k => spec_l1Put.f k l e) (fun r => Up r ∧ (∀ x, x ∈ r ↔ x = e ∨ x ∈ l) ∧ r.length ≤ l.length + 1) := by
  by_cases he : e ∈ l
  · unfold spec_l1Put.f
    exact Cm.pos (putAt_mem hu he) (Cm.of (putT_ev l e hl hu he) ⟨hu, fun x => ⟨.inr, fun h => h.elim (fun h => h ▸ he) id⟩, by omega⟩)
  · exact (l1Put_cm l e (by omega) hu he).mono (fun r h => ⟨h.1, h.2.1, by omega⟩)

/-- A list of cops: none is less than the one ahead of it. -/
def Asc (L : List Int) : Prop := ∀ i : Int, 0 < i → i < L.length → rd L (i - 1) ≤ rd L i
theorem less_eq (a b : Int) : cmp_Less_int.f a b = some (decide (a < b)) := by
  unfold cmp_Less_int.f cmp_isNaN_int.f
  simp
theorem sorted_cm (L : List Int) (hl : L.length ≤ 1048576) : Cm (fun k => slices_IsSorted_int_int.f k L) (fun b => b = true ↔ Asc L) := by
  unfold slices_IsSorted_int_int.f
  rw [w64 _ (by omega) (by omega)]
  refine Cm.meas (fun k i => slices_IsSorted_int_int.l0 k L i) (fun i : Int => i.toNat) (fun i => i < L.length ∧ ∀ j : Int, i < j → 0 < j → j < L.length → rd L (j - 1) ≤ rd L j) (fun _ b => b = true ↔ Asc L) ?_ _ ⟨by omega, fun j h1 h2 h3 => by omega⟩
  rintro i ⟨hi, hj⟩ ih
  by_cases h : i > 0
  · refine Cm.step (fun k => by simp (disch := omega) only [slices_IsSorted_int_int.l0, if_pos h, w64 (i - 1), less_eq, Option.bind_some]; try rfl) (Cm.pos (by omega) (Cm.pos hi (Cm.pos (by omega) (Cm.pos (by omega) (Cm.ite (fun e => Cm.now ?_) (fun e => ih (i - 1) ⟨by omega, fun j h1 h2 h3 => ?_⟩ (by omega)))))))
    · rw [decide_eq_true_eq] at e
      refine ⟨fun h => Bool.noConfusion h, fun hA => ?_⟩
      have := hA i (by omega) hi
      omega
    · by_cases e' : j = i
      · subst e'
        rw [decide_eq_true_eq] at e
        omega
      · exact hj j (by omega) h2 h3
  · refine Cm.step (fun k => by simp only [slices_IsSorted_int_int.l0, if_neg h]; try rfl) (Cm.now ⟨fun _ j h1 h2 => hj j (by omega) h1 h2, fun _ => rfl⟩)

theorem cops_cm (s : Int) (l : List S59) (L : List Int) (hL : L.length ≤ 1048576) (hG : Gr.Good s l) : Cm (fun k => spec_l4Cops.f k s l L) (fun b => b = true ↔ (∀ x ∈ L, 0 ≤ x ∧ x < s) ∧ Asc L) := by
  unfold spec_l4Cops.f
  refine Cm.up (fun k i (_ : Unit) => spec_l4Cops.l0 k L i s l) L.length (fun i _ => 0 ≤ i ∧ (∀ x ∈ L.take i.toNat, 0 ≤ x ∧ x < s) ∧ ∀ j : Int, 0 < j → j < i → rd L (j - 1) ≤ rd L j) _ ?_ 0 () (by omega) ⟨by omega, by simp, fun j h1 h2 => by omega⟩
  rintro i _ hi ⟨i0, hm, hj⟩ ih
  by_cases h : i < L.length
  · refine Cm.step (fun k => by simp (disch := omega) only [spec_l4Cops.l0, if_pos h, if_pos i0, w64 (i + 1), node_eq s l _ hG, Option.bind_some]; try rfl) ?_
    refine Cm.ite (fun e => ?_) (fun e => Cm.now ⟨fun h => Bool.noConfusion h, fun hA => (e (decide_eq_true (hA.1 _ (rd_mem L i i0 h)))).elim⟩)
    rw [decide_eq_true_eq] at e
    have hm' : ∀ x ∈ L.take (i + 1).toNat, 0 ≤ x ∧ x < s := by
      rw [take_rd L i i0 h]
      intro x hx
      rcases List.mem_append.1 hx with hx | hx
      · exact hm x hx
      · rw [List.mem_singleton] at hx
        subst hx
        exact e
    refine Cm.ite (fun hp => ?_) (fun hp => ih () h ⟨by omega, hm', fun j h1 h2 => by omega⟩)
    rw [w64 (i - 1) (by omega) (by omega)]
    refine Cm.pos (by omega) (Cm.pos (by omega) (Cm.ite (fun hg => Cm.now ⟨fun h => Bool.noConfusion h, fun hA => ?_⟩) (fun hg => ih () h ⟨by omega, hm', fun j h1 h2 => ?_⟩)))
    · have := hA.2 i hp h
      omega
    · by_cases e' : j = i
      · subst e'
        omega
      · exact hj j h1 (by omega)
  · refine Cm.step (fun k => by simp only [spec_l4Cops.l0, if_neg h]; try rfl) (Cm.now ⟨fun _ => ⟨?_, fun j h1 h2 => hj j h1 (by omega)⟩, fun _ => rfl⟩)
    rw [take_all L i (by omega)] at hm
    exact hm

theorem inC (a : Int) : impl_within.f a 1 3 = some (decide (1 ≤ a ∧ a ≤ 3)) := by
  unfold impl_within.f
  by_cases h : a ≥ 1
  · rw [if_pos h]
    simp [show 1 ≤ a from h]
  · rw [if_neg h]
    simp [show ¬ 1 ≤ a from h]

open Classical in
/-- The nodes of the cops' balls. -/
noncomputable def guarded (s : Int) (l : List S59) (L : List Int) : List Int := (V s).filter (fun v => decide (∃ u ∈ L, cl l u v = true))

open Classical in
theorem guard_impl (s : Int) (l : List S59) (L : List Int) (hl : l.length ≤ 1048576) (hL : L.length ≤ 1048576) (hG : Gr.Good s l) (hm : ∀ x ∈ L, 0 ≤ x ∧ x < s) : Cm (fun k => (impl_netOf.f k s l).bind fun t103 => ((impl_maskOf.f k L).bind fun t106 => ((impl_net_around.f k t103 t106).bind fun t107 => ((impl_setOf.f k t107).bind fun t108 => (some (t108, true)))))) (fun z => z = (guarded s l L, true)) := by
  have h8 := hG.2.1
  obtain ⟨m, hM, hbit, hN⟩ := net_ev s l hl hG
  refine Cm.bindE hN (Cm.bind (mask_cm L hL (fun x hx => ⟨(hm x hx).1, by have := (hm x hx).2; omega⟩)) ?_)
  rintro q ⟨hq, hqb⟩
  refine Cm.bind (around_cm s l h8 m ⟨hM, hbit⟩ q hq) ?_
  rintro a ⟨ha, hab⟩
  refine Cm.bindE (setP_ev a ha s h8 (fun v => decide (∃ u ∈ L, cl l u v = true)) (fun v v0 v1 => ?_)) (Cm.now rfl)
  rw [Bool.eq_iff_iff, hab v v0 v1, Bool.and_eq_true, decide_eq_true_eq, decide_eq_true_eq]
  constructor
  · rintro (h | ⟨u, hu, h1, h2⟩)
    · rw [hqb v v0 (by omega), decide_eq_true_eq] at h
      exact ⟨(hm v h).2, v, h, cl_self l v⟩
    · rw [hqb u hu.1 (by omega), decide_eq_true_eq] at h1
      exact ⟨(near_in hG h2).2.1.2, u, h1, by unfold cl; rw [h2]; rfl⟩
  · rintro ⟨hv, u, h1, h2⟩
    unfold cl at h2
    rw [Bool.or_eq_true, beq_iff_eq] at h2
    rcases h2 with h2 | h2
    · refine .inr ⟨u, hm u h1, ?_, h2⟩
      rw [hqb u (hm u h1).1 (by have := (hm u h1).2; omega), decide_eq_true_eq]
      exact h1
    · refine .inl ?_
      rw [hqb v v0 (by omega), decide_eq_true_eq, ← h2]
      exact h1

open Classical in
theorem guard_spec (s : Int) (l : List S59) (L : List Int) (hl : l.length ≤ 1048576) (hL : L.length ≤ 1000) (hG : Gr.Good s l) (hm : ∀ x ∈ L, 0 ≤ x ∧ x < s) : Cm (fun k => spec_GuardedNodes.l0 k L [] 0 s l) (fun z => z = (guarded s l L, true)) := by
  have h8 := hG.2.1
  refine Cm.up (fun k i out => spec_GuardedNodes.l0 k L out i s l) L.length (fun i out => 0 ≤ i ∧ Up out ∧ (out.length : Int) ≤ 8 * i ∧ ∀ x, x ∈ out ↔ (0 ≤ x ∧ x < s) ∧ ∃ u ∈ L.take i.toNat, cl l u x = true) _ ?_ 0 [] (by omega) ⟨by omega, List.Pairwise.nil, by simp, fun x => by simp⟩
  rintro i out hi ⟨i0, hu, hol, ho⟩ ih
  by_cases h : i < L.length
  · have hx := hm _ (rd_mem L i i0 h)
    refine Cm.step (fun k => by simp only [spec_GuardedNodes.l0, if_pos h, if_pos i0]; try rfl) (Cm.bindE (ball_ev s l hl hG (rd L i) hx) ?_)
    obtain ⟨B, hB⟩ : ∃ B, B = (V s).filter (cl l (rd L i)) := ⟨_, rfl⟩
    have hBl : B.length ≤ s.toNat := by rw [hB]; exact VF_len
    have hBm : ∀ y, y ∈ B ↔ (0 ≤ y ∧ y < s) ∧ cl l (rd L i) y = true := fun y => by rw [hB, mem_VF]
    rw [← hB]
    clear hB
    refine Cm.up (fun k j z => spec_GuardedNodes.l1 k L z i B j s l) B.length (fun j z => 0 ≤ j ∧ Up z ∧ (z.length : Int) ≤ 8 * i + j ∧ ∀ x, x ∈ z ↔ x ∈ B.take j.toNat ∨ x ∈ out) _ ?_ 0 out (by omega) ⟨by omega, hu, by omega, fun x => by simp⟩
    rintro j z hj ⟨j0, hzu, hzl, hz⟩ ih2
    by_cases hc : j < B.length
    · refine Cm.step (fun k => by simp (disch := omega) only [spec_GuardedNodes.l1, if_pos hc, if_pos j0, w64 (j + 1)]; try rfl) (Cm.bind (put_any z (rd B j) (by omega) hzu) ?_)
      rintro r ⟨hr, hrm, hrl⟩
      refine ih2 r hc ⟨by omega, hr, by omega, fun x => ?_⟩
      rw [hrm, hz, take_rd B j j0 hc, List.mem_append, List.mem_singleton]
      constructor
      · rintro (h | h | h)
        · exact .inl (.inr h)
        · exact .inl (.inl h)
        · exact .inr h
      · rintro ((h | h) | h)
        · exact .inr (.inl h)
        · exact .inl h
        · exact .inr (.inr h)
    · refine Cm.step (fun k => by simp only [spec_GuardedNodes.l1, if_neg hc]; try rfl) ?_
      rw [w64 (i + 1) (by omega) (by omega)]
      refine ih z h ⟨by omega, hzu, by omega, fun x => ?_⟩
      rw [hz, take_all B j (by omega), hBm, ho, take_rd L i i0 h]
      constructor
      · rintro (⟨h1, h2⟩ | ⟨h1, u, h2, h3⟩)
        · exact ⟨h1, rd L i, List.mem_append_right _ (List.mem_singleton.2 rfl), h2⟩
        · exact ⟨h1, u, List.mem_append_left _ h2, h3⟩
      · rintro ⟨h1, u, h2, h3⟩
        rcases List.mem_append.1 h2 with h2 | h2
        · exact .inr ⟨h1, u, h2, h3⟩
        · rw [List.mem_singleton] at h2
          rw [h2] at h3
          exact .inl ⟨h1, h3⟩
  · refine Cm.step (fun k => by simp only [spec_GuardedNodes.l0, if_neg h]; try rfl) (Cm.now ?_)
    rw [take_all L i (by omega)] at ho
    have e : out = (V s).filter (fun v => decide (∃ u ∈ L, cl l u v = true)) := up_ext hu (filter_up (V_up s) _) (fun x => by rw [ho, mem_VF, decide_eq_true_eq])
    rw [e]
    rfl

theorem both (s : Int) (l : List S59) (L : List Int) (hl : l.length ≤ 1048576) (hL : L.length ≤ 1048576) : ∃ es b, es.length ≤ 1048576 ∧ Ev (fun k => spec_GuardedNodes.f k s l L) (es, b) ∧ Ev (fun k => impl_GuardedNodes.f k s l L) (es, b) := by
  obtain ⟨b, hb, hS, hI⟩ := isGraph_full s l hl
  obtain ⟨x, hx⟩ : ∃ x : Int, x = (L.length : Int) := ⟨_, rfl⟩
  have e : spec_l1In.f x 1 3 = some (decide (1 ≤ x ∧ x ≤ 3)) := l1In_eq x 1 3
  have fS : Ev (fun k => spec_l4Field.f k s l x) (b && (decide (s > 0) && decide (1 ≤ x ∧ x ≤ 3))) := by
    refine Cm.ev (Cm.bindE hS ?_)
    cases b with
    | false => exact Cm.neg (by decide) (Cm.now rfl)
    | true =>
      refine Cm.pos rfl (Cm.ite (fun h => ?_) (fun h => Cm.now (by rw [decide_eq_false h]; rfl)))
      rw [e]
      exact Cm.bindE (Ev.now _) (Cm.now (by rw [decide_eq_true h]; rfl))
  have fI : Ev (fun k => impl_isCopGame.f k s l x) (b && (decide (s > 0) && decide (1 ≤ x ∧ x ≤ 3))) := by
    refine Cm.ev (Cm.bindE hI ?_)
    cases b with
    | false => exact Cm.neg (by decide) (Cm.now rfl)
    | true =>
      refine Cm.pos rfl (Cm.ite (fun h => ?_) (fun h => Cm.now (by rw [decide_eq_false h]; rfl)))
      rw [inC]
      exact Cm.bindE (Ev.now _) (Cm.now (by rw [decide_eq_true h]; rfl))
  have jT : Cm (fun k => spec_GuardedNodes.j0 k L [] true s l) (fun z => z = (([] : List Int), false)) := Cm.step (fun k => by simp only [spec_GuardedNodes.j0, if_true]; try rfl) (Cm.now rfl)
  have sN : Ev (fun k => spec_l4Field.f k s l x) false → Ev (fun k => spec_GuardedNodes.f k s l L) (([] : List Int), false) := fun h => by
    rw [hx] at h
    exact Cm.ev (Cm.bindE (Ev.now _) (Cm.bindE h (Cm.neg (by decide) jT)))
  have iN : Ev (fun k => impl_areCops.f k s l L) false → Ev (fun k => impl_GuardedNodes.f k s l L) (([] : List Int), false) := fun h => Cm.ev (Cm.bindE h (Cm.neg (by decide) (Cm.now rfl)))
  cases hq : (b && (decide (s > 0) && decide (1 ≤ x ∧ x ≤ 3))) with
  | false =>
    rw [hq] at fS fI
    refine ⟨[], false, by simp, sN fS, iN (Cm.ev ?_)⟩
    rw [hx] at fI
    exact Cm.bindE fI (Cm.neg (by decide) (Cm.now rfl))
  | true =>
    rw [hq] at fS fI
    rw [Bool.and_eq_true, Bool.and_eq_true, decide_eq_true_eq, decide_eq_true_eq] at hq
    obtain ⟨hb1, h0, h1, h3⟩ := hq
    subst hb1
    obtain ⟨hG, _⟩ := hb rfl
    have h8 := hG.2.1
    rw [hx] at fS fI
    have hw : wrap64 (s - 1) = s - 1 := w64 _ (by omega) (by omega)
    by_cases hA : (∀ x ∈ L, 0 ≤ x ∧ x < s) ∧ Asc L
    · have hlen : ((guarded s l L).length : Int) ≤ 1048576 := by
        have : (guarded s l L).length ≤ s.toNat := by unfold guarded; exact VF_len
        omega
      refine ⟨guarded s l L, true, by omega, Cm.ev ?_, Cm.ev ?_⟩
      · refine Cm.bindE (Ev.now _) (Cm.bindE fS (Cm.pos rfl (Cm.bind (cops_cm s l L hL hG) ?_)))
        intro q hq
        rw [hq.2 hA]
        exact Cm.step (fun k => by simp only [spec_GuardedNodes.j0, Bool.not_true, Bool.false_eq_true, if_false]; try rfl) (guard_spec s l L hl (by omega) hG hA.1)
      · have hc : Ev (fun k => impl_areCops.f k s l L) true := by
          refine Cm.ev (Cm.bindE fI (Cm.pos rfl ?_))
          refine Cm.bind (P := fun z => z = true) ?_ ?_
          · refine Cm.bindE hI (Cm.pos rfl (Cm.bind (allIn_ev L 0 (wrap64 (s - 1)) hL) ?_))
            intro q hq
            rw [hw] at hq
            exact Cm.now (hq.2 (fun x hx => ⟨(hA.1 x hx).1, by have := (hA.1 x hx).2; omega⟩))
          · rintro _ rfl
            refine Cm.pos rfl (Cm.bind (sorted_cm L hL) ?_)
            intro q hq
            exact Cm.now (hq.2 hA.2)
        exact Cm.bindE hc (Cm.pos rfl (guard_impl s l L hl hL hG hA.1))
    · refine ⟨[], false, by simp, Cm.ev ?_, iN (Cm.ev ?_)⟩
      · refine Cm.bindE (Ev.now _) (Cm.bindE fS (Cm.pos rfl (Cm.bind (cops_cm s l L hL hG) ?_)))
        intro q hq
        have : q = false := by cases q with | false => rfl | true => exact (hA (hq.1 rfl)).elim
        rw [this]
        exact jT
      · refine Cm.bindE fI (Cm.pos rfl ?_)
        refine Cm.bind (P := fun z => z = true → ∀ x ∈ L, 0 ≤ x ∧ x < s) ?_ ?_
        · refine Cm.bindE hI (Cm.pos rfl (Cm.bind (allIn_ev L 0 (wrap64 (s - 1)) hL) ?_))
          intro q hq
          rw [hw] at hq
          exact Cm.now (fun h x hx => by have := hq.1 h x hx; omega)
        · intro q hq
          refine Cm.ite (fun h => Cm.bind (sorted_cm L hL) ?_) (fun _ => Cm.now rfl)
          intro q2 hq2
          refine Cm.now ?_
          cases q2 with
          | false => rfl
          | true => exact (hA ⟨hq h, hq2.1 rfl⟩).elim

theorem FnExactGuardedNodes : laws_FnExactGuardedNodes.Pure := by
  intro s0 l0 L1 hs0 hl0 hx0 hm1 hw1
  refine Ev.rounds (Cm.ev ?_)
  unfold laws_FnExactGuardedNodes.f
  refine Cm.ite (fun _ => Cm.now rfl) (fun cL1 => ?_)
  by_cases c0 : (1048576 : Int) - l0.length < 0
  · exact Cm.bindE (sz_ev (sz_big s0 l0 hl0 c0)) (Cm.pos (by decide) (Cm.now rfl))
  refine Cm.bindE (sz_ev (sz_small s0 l0 (by omega))) (Cm.neg c0 ?_)
  obtain ⟨es, b, he, E1, E2⟩ := both s0 l0 L1 (by omega) (by omega)
  obtain ⟨r0, M0⟩ := mark_at s0 l0 ((1 : Int)) (by omega) (by omega) (by omega)
  obtain ⟨r1, M1⟩ := markI_at L1 ((1 : Int) + 2 * (l0.length : Int)) (by omega) (by omega) (by omega)
  obtain ⟨re, E3, E4⟩ := mark_heldI es (by omega)
  have a_b : ¬ (b != b) = true := by cases b <;> decide
  repeat first
    | with_reducible exact Cm.now rfl
    | refine Cm.bindE (toGraph_ev s0 l0 (by omega)) ?_
    | refine Cm.bindE (toI_ev L1 (by omega)) ?_
    | refine Cm.bindE E1 ?_
    | refine Cm.bindE E2 ?_
    | refine Cm.bindE (eqI_ev es (by omega)) (Cm.pos rfl ?_)
    | refine Cm.bindE (eqGraph_ev s0 l0 (by omega)) (Cm.pos rfl ?_)
    | refine Cm.bindE (eqI_ev L1 (by omega)) (Cm.pos rfl ?_)
    | refine Cm.bindE M0 ?_
    | refine Cm.bindE M1 ?_
    | refine Cm.bindE E3 ?_
    | refine Cm.bindE E4 ?_
    | refine Cm.neg a_b ?_
    | refine Cm.neg (by omega) ?_
    | refine Cm.pos (by omega) ?_
    | refine Cm.pos rfl ?_
    | dsimp only

end Go.Proofs.Ytooboeahekdibaa.Pure
