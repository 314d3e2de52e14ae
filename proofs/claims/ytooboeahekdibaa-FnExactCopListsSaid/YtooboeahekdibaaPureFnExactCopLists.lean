/- The pure law FnExactCopLists: both list the lists of cops in order; all sizes and numbers that are let in are looked at. -/
import Derived.Test.YtooboeahekdibaaGrRS
import Derived.Test.YtooboeahekdibaaGrBm
import Derived.Test.YtooboeahekdibaaGrH
import Derived.Test.YtooboeahekdibaaPxImplCopLists
import Derived.Test.YtooboeahekdibaaPxImplIsCopGame
import Derived.Test.YtooboeahekdibaaPxLawsFnExactCopLists
import Derived.Test.YtooboeahekdibaaPxSpecCopLists
import Derived.Test.YtooboeahekdibaaPxSpecL4Configs
import Derived.Test.YtooboeahekdibaaPxSpecL4Field
import Derived.KernelRfl
namespace Go.Proofs.Ytooboeahekdibaa.Pure
open Go.RowKit Go.Proofs.Ytooboeahekdibaa.P Go.Proofs.YtooboeahekdibaaW.PrintWords Go.Proofs.YtooboeahekdibaaW.PrintLast Go.Proofs.YtooboeahekdibaaW.PrintMore Go.Proofs.Ytooboeahekdibaa.Gr

def listsOk (n k : Int) : Bool :=
  match spec_l4Configs.f 1200 n k, impl_copLists.f 1200 n k with
  | some x, some y => x == y && decide (x.length ≤ 1024) && x.all (fun z => decide (z.length ≤ 1024))
  | _, _ => false
theorem lists_all : ((List.range 8).all fun a => (List.range 3).all fun b => listsOk ((a : Int) + 1) ((b : Int) + 1)) = true := by kernel_rfl
theorem lists_of (n k : Int) (h0 : 1 ≤ n) (h8 : n ≤ 8) (k0 : 1 ≤ k) (k3 : k ≤ 3) : ∃ x : List (List Int), x.length ≤ 1024 ∧ (∀ z ∈ x, List.length z ≤ 1024) ∧ spec_l4Configs.f 1200 n k = some x ∧ impl_copLists.f 1200 n k = some x := by
  have h := List.all_eq_true.1 (List.all_eq_true.1 lists_all (n - 1).toNat (List.mem_range.2 (by omega))) (k - 1).toNat (List.mem_range.2 (by omega))
  rw [show ((n - 1).toNat : Int) + 1 = n by omega, show ((k - 1).toNat : Int) + 1 = k by omega] at h
  unfold listsOk at h
  split at h
  · rename_i x y e1 e2
    simp only [Bool.and_eq_true, beq_iff_eq, decide_eq_true_eq, List.all_eq_true] at h
    obtain ⟨⟨rfl, h1⟩, h2⟩ := h
    exact ⟨x, h1, h2, e1, e2⟩
  · cases h
theorem inL (a : Int) : impl_within.f a 1 3 = some (decide (1 ≤ a ∧ a ≤ 3)) := by
  unfold impl_within.f
  by_cases h : a ≥ 1
  · rw [if_pos h]
    simp [show 1 ≤ a from h]
  · rw [if_neg h]
    simp [show ¬ 1 ≤ a from h]

theorem both (s : Int) (l : List S59) (x : Int) (hl : l.length ≤ 1048576) : ∃ es b, es.length ≤ 1048576 ∧ (∀ x ∈ es, List.length x ≤ 1024) ∧ Ev (fun k => spec_CopLists.f k s l x) (es, b) ∧ Ev (fun k => impl_CopLists.f k s l x) (es, b) := by
  obtain ⟨b, hb, hS, hI⟩ := isGraph_full s l hl
  have e : spec_l1In.f x 1 3 = some (decide (1 ≤ x ∧ x ≤ 3)) := l1In_eq x 1 3
  have nS : ∀ {q : Bool}, q = false → Ev (fun k => spec_l4Field.f k s l x) q → Ev (fun k => spec_CopLists.f k s l x) (([] : List (List Int)), false) := fun hq h => by
    subst hq
    exact Cm.ev (Cm.bindE h (Cm.neg (by decide) (Cm.now rfl)))
  have nI : ∀ {q : Bool}, q = false → Ev (fun k => impl_isCopGame.f k s l x) q → Ev (fun k => impl_CopLists.f k s l x) (([] : List (List Int)), false) := fun hq h => by
    subst hq
    exact Cm.ev (Cm.bindE h (Cm.neg (by decide) (Cm.now rfl)))
  have fS : Ev (fun k => spec_l4Field.f k s l x) (b && (decide (s > 0) && decide (1 ≤ x ∧ x ≤ 3))) := by
    refine Cm.ev (Cm.bindE hS ?_)
    cases b with
    | false => exact Cm.neg (by decide) (Cm.now rfl)
    | true =>
      refine Cm.pos rfl (Cm.ite (fun h => ?_) (fun h => Cm.now (by rw [decide_eq_false h]; rfl)))
      rw [e]
      exact Cm.bindE (Ev.now _) (Cm.now (by rw [decide_eq_true h]; rfl))
  have fI : Ev (fun k => impl_isCopGame.f k s l x) (b && (decide (s > 0) && decide (1 ≤ x ∧ x ≤ 3))) := by
    refine Cm.ev (Cm.bindE hI ?_)
    cases b with
    | false => exact Cm.neg (by decide) (Cm.now rfl)
    | true =>
      refine Cm.pos rfl (Cm.ite (fun h => ?_) (fun h => Cm.now (by rw [decide_eq_false h]; rfl)))
      rw [inL]
      exact Cm.bindE (Ev.now _) (Cm.now (by rw [decide_eq_true h]; rfl))
  cases hq : (b && (decide (s > 0) && decide (1 ≤ x ∧ x ≤ 3))) with
  | false => exact ⟨[], false, by simp, by simp, nS hq fS, nI hq fI⟩
  | true =>
    rw [hq] at fS fI
    rw [Bool.and_eq_true, Bool.and_eq_true, decide_eq_true_eq, decide_eq_true_eq] at hq
    obtain ⟨hb1, h0, h1, h3⟩ := hq
    obtain ⟨hG, _⟩ := hb hb1
    have h8 := hG.2.1
    obtain ⟨es, hl1, hl2, e1, e2⟩ := lists_of s x (by omega) h8 h1 h3
    exact ⟨es, true, by omega, hl2, Cm.ev (Cm.bindE fS (Cm.pos rfl (Cm.bindE (Ev.of (fun k => spec_l4Configs.mono _ _ k) e1) (Cm.now rfl)))), Cm.ev (Cm.bindE fI (Cm.pos rfl (Cm.bindE (Ev.of (fun k => impl_copLists.mono _ _ k) e2) (Cm.now rfl))))⟩

theorem FnExactCopLists : laws_FnExactCopLists.Pure := by
  intro s0 l0 x1 hs0 hl0 hx0 hw1
  refine Ev.rounds (Cm.ev ?_)
  unfold laws_FnExactCopLists.f
  by_cases c0 : (1048576 : Int) - l0.length < 0
  · exact Cm.bindE (sz_ev (sz_big s0 l0 hl0 c0)) (Cm.pos (by decide) (Cm.now rfl))
  refine Cm.bindE (sz_ev (sz_small s0 l0 (by omega))) (Cm.neg c0 ?_)
  obtain ⟨es, b, he, hr, E1, E2⟩ := both s0 l0 x1 (by omega)
  obtain ⟨r0, M0⟩ := mark_at s0 l0 ((1 : Int)) (by omega) (by omega) (by omega)
  obtain ⟨re, te, E3, E4⟩ := mark_heldSS es (by omega) hr
  have a_b : ¬ (b != b) = true := by cases b <;> decide
  repeat first
    | with_reducible exact Cm.now rfl
    | refine Cm.bindE (toGraph_ev s0 l0 (by omega)) ?_
    | refine Cm.bindE E1 ?_
    | refine Cm.bindE E2 ?_
    | refine Cm.bindE (eqSS_ev es (by omega) hr) (Cm.pos rfl ?_)
    | refine Cm.bindE (eqGraph_ev s0 l0 (by omega)) (Cm.pos rfl ?_)
    | refine Cm.bindE M0 ?_
    | refine Cm.bindE E3 ?_
    | refine Cm.bindE E4 ?_
    | refine Cm.neg a_b ?_
    | refine Cm.neg (by omega) ?_
    | refine Cm.pos (by omega) ?_
    | refine Cm.pos rfl ?_
    | dsimp only

end Go.Proofs.Ytooboeahekdibaa.Pure
