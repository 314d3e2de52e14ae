/- The pure law FnExactShadowsOf: both follow a node along the steps of the stripping. -/
import Derived.Test.YtmbgpbanbffchaaGrR
import Derived.Test.YtmbgpbanbffchaaGrH
import Derived.Test.YtmbgpbanbffchaaGrJ
import Derived.Test.YtmbgpbanbffchaaGrB
import Derived.Test.YtmbgpbanbffchaaPxImplShadowsOf
import Derived.Test.YtmbgpbanbffchaaPxLawsFnExactShadowsOf
import Derived.Test.YtmbgpbanbffchaaPxSpecShadowsOf
namespace Go.Proofs.Ytmbgpbanbffchaa.Pure
open Go.RowKit Go.Proofs.Ytmbgpbanbffchaa.P Go.Proofs.YtmbgpbanbffchaaW.PrintWords Go.Proofs.YtmbgpbanbffchaaW.PrintLast Go.Proofs.YtmbgpbanbffchaaW.PrintMore Go.Proofs.Ytmbgpbanbffchaa.Gr

/-- One step: the node moves to its cover, and is told. -/
def go (z : Int × List Int) (e : S75) : Int × List Int := if e.f0 = z.1 then (e.f1, z.2 ++ [e.f1]) else (z.1, z.2 ++ [z.1])
theorem go_len : ∀ (a : List S75) (z : Int × List Int), (a.foldl go z).2.length = z.2.length + a.length
  | [], z => by simp
  | e :: a, z => by
    rw [List.foldl_cons, go_len a, List.length_cons]
    unfold go
    split <;> simp <;> omega

theorem loops (a : List S75) (x : Int) (ha : a.length ≤ 1000) : Ev (fun k => spec_ShadowsOf.l0 k x [x] a 0) ((a.foldl go (x, [x])).2, true) ∧ Ev (fun k => impl_ShadowsOf.l0 k x [x] a a.length 0) ((a.foldl go (x, [x])).2, true) := by
  constructor
  · refine Cm.ev (Cm.up (fun k i (z : Int × List Int) => spec_ShadowsOf.l0 k z.1 z.2 a i) a.length (fun i z => 0 ≤ i ∧ z = (a.take i.toNat).foldl go (x, [x])) _ ?_ 0 (x, [x]) (by omega) ⟨by omega, rfl⟩)
    rintro i z hi ⟨i0, hz⟩ ih
    have hlen : z.2.length = 1 + (a.take i.toNat).length := by rw [hz, go_len]; rfl
    rw [List.length_take] at hlen
    by_cases h : i < (a.length : Int)
    · have hn : (a.take (i + 1).toNat).foldl go (x, [x]) = go z (rd_T75 a i) := by rw [takeT a i i0 h, List.foldl_append, ← hz]; rfl
      by_cases e : z.1 = (rd_T75 a i).f0
      · refine Cm.step (fun k => by simp (disch := omega) only [spec_ShadowsOf.l0, if_pos h, if_pos i0, if_pos e, w64 (i + 1), if_pos]; try rfl) (ih ((rd_T75 a i).f1, z.2 ++ [(rd_T75 a i).f1]) h ⟨by omega, ?_⟩)
        rw [hn]
        unfold go
        rw [if_pos e.symm]
      · refine Cm.step (fun k => by simp (disch := omega) only [spec_ShadowsOf.l0, if_pos h, if_pos i0, if_neg e, w64 (i + 1), if_pos]; try rfl) (ih (z.1, z.2 ++ [z.1]) h ⟨by omega, ?_⟩)
        rw [hn]
        unfold go
        rw [if_neg (fun h => e h.symm)]
    · refine Cm.step (fun k => by simp only [spec_ShadowsOf.l0, if_neg h]; try rfl) (Cm.now ?_)
      rw [hz, takeT_all a i (by omega)]
  · refine Cm.ev (Cm.up (fun k i (z : Int × List Int) => impl_ShadowsOf.l0 k z.1 z.2 a a.length i) a.length (fun i z => 0 ≤ i ∧ z = (a.take i.toNat).foldl go (x, [x])) _ ?_ 0 (x, [x]) (by omega) ⟨by omega, rfl⟩)
    rintro i z hi ⟨i0, hz⟩ ih
    have hlen : z.2.length = 1 + (a.take i.toNat).length := by rw [hz, go_len]; rfl
    rw [List.length_take] at hlen
    by_cases h : i < (a.length : Int)
    · have hn : (a.take (i + 1).toNat).foldl go (x, [x]) = go z (rd_T75 a i) := by rw [takeT a i i0 h, List.foldl_append, ← hz]; rfl
      by_cases e : (rd_T75 a i).f0 = z.1
      · refine Cm.step (fun k => by simp (disch := omega) only [impl_ShadowsOf.l0, if_pos h, if_pos i0, if_pos e, w64 (i + 1), if_pos]; try rfl) (ih ((rd_T75 a i).f1, z.2 ++ [(rd_T75 a i).f1]) h ⟨by omega, ?_⟩)
        rw [hn]
        unfold go
        rw [if_pos e]
      · refine Cm.step (fun k => by simp (disch := omega) only [impl_ShadowsOf.l0, if_pos h, if_pos i0, if_neg e, w64 (i + 1), if_pos]; try rfl) (ih (z.1, z.2 ++ [z.1]) h ⟨by omega, ?_⟩)
        rw [hn]
        unfold go
        rw [if_neg e]
    · refine Cm.step (fun k => by simp only [impl_ShadowsOf.l0, if_neg h]; try rfl) (Cm.now ?_)
      rw [hz, takeT_all a i (by omega)]

theorem both (s : Int) (l : List S75) (x : Int) (hl : l.length ≤ 1048576) : ∃ r b, r.length ≤ 1048576 ∧ Ev (fun k => spec_ShadowsOf.f k s l x) (r, b) ∧ Ev (fun k => impl_ShadowsOf.f k s l x) (r, b) := by
  obtain ⟨b, hb, hS, hI⟩ := isGraph_full s l hl
  have sJ : Cm (fun k => spec_ShadowsOf.j0 k x true s l) (fun z => z = ([], false)) := Cm.step (fun k => by simp only [spec_ShadowsOf.j0, if_true]; try rfl) (Cm.now rfl)
  cases b with
  | false => exact ⟨[], false, by simp, Cm.ev (Cm.bindE hS (Cm.neg (by decide) sJ)), Cm.ev (Cm.bindE (has_not s l _ hI) (Cm.neg (by decide) (Cm.now rfl)))⟩
  | true =>
    obtain ⟨hG, hO⟩ := hb rfl
    have hH := has_one s l x hG hI
    by_cases hx : 0 ≤ x ∧ x < s
    · rw [decide_eq_true hx] at hH
      obtain ⟨r, hr, hbit, hN⟩ := net_ev s l hl hG
      obtain ⟨a, P, m, ha, hM, _, e1, e2⟩ := strip_both s l hl hG r ⟨hr, hbit⟩
      obtain ⟨l1, l2⟩ := loops a x (by omega)
      refine ⟨(a.foldl go (x, [x])).2, true, by rw [go_len]; simp; omega, Cm.ev ?_, Cm.ev ?_⟩
      · refine Cm.bindE hS (Cm.pos rfl ?_)
        rw [node_eq s l x hG, decide_eq_true hx]
        refine Cm.bindE (Ev.now _) (Cm.step (fun k => by simp only [spec_ShadowsOf.j0, Bool.not_true, Bool.false_eq_true, if_false]; try rfl) (Cm.bindE e1 (Ev.cm l1)))
      · exact Cm.bindE hH (Cm.pos rfl (Cm.bindE hN (Cm.bindE e2 (Ev.cm l2))))
    · rw [decide_eq_false hx] at hH
      refine ⟨[], false, by simp, Cm.ev ?_, Cm.ev (Cm.bindE hH (Cm.neg (by decide) (Cm.now rfl)))⟩
      refine Cm.bindE hS (Cm.pos rfl ?_)
      rw [node_eq s l x hG, decide_eq_false hx]
      exact Cm.bindE (Ev.now _) sJ

theorem FnExactShadowsOf : laws_FnExactShadowsOf.Pure := by
  intro s0 l0 x1 hs0 hl0 hx0 hw1
  refine Ev.rounds (Cm.ev ?_)
  unfold laws_FnExactShadowsOf.f
  by_cases c0 : (1048576 : Int) - l0.length < 0
  · exact Cm.bindE (sz_ev (sz_big s0 l0 hl0 c0)) (Cm.pos (by decide) (Cm.now rfl))
  refine Cm.bindE (sz_ev (sz_small s0 l0 (by omega))) (Cm.neg c0 ?_)
  obtain ⟨es, b, he, E1, E2⟩ := both s0 l0 x1 (by omega)
  obtain ⟨r0, M0⟩ := mark_at s0 l0 ((1 : Int)) (by omega) (by omega) (by omega)
  obtain ⟨re, E3, E4⟩ := mark_heldI es (by omega)
  have a_b : ¬ (b != b) = true := by cases b <;> decide
  repeat first
    | with_reducible exact Cm.now rfl
    | refine Cm.bindE (toGraph_ev s0 l0 (by omega)) ?_
    | refine Cm.bindE E1 ?_
    | refine Cm.bindE E2 ?_
    | refine Cm.bindE (eqI_ev es (by omega)) (Cm.pos rfl ?_)
    | refine Cm.bindE (eqGraph_ev s0 l0 (by omega)) (Cm.pos rfl ?_)
    | refine Cm.bindE M0 ?_
    | refine Cm.bindE E3 ?_
    | refine Cm.bindE E4 ?_
    | refine Cm.neg a_b ?_
    | refine Cm.neg (by omega) ?_
    | refine Cm.pos (by omega) ?_
    | refine Cm.pos rfl ?_
    | dsimp only

end Go.Proofs.Ytmbgpbanbffchaa.Pure
