/- The pure law FnExactIsCorner: both take sets and their nodes alone, and ask whether some node covers it in the set. -/
import Derived.Test.YtbnhckhbjoldcaaGrV
import Derived.Test.YtbnhckhbjoldcaaGrO
import Derived.Test.YtbnhckhbjoldcaaGrCt
import Derived.Test.YtbnhckhbjoldcaaGrZ
import Derived.Test.YtbnhckhbjoldcaaPxImplIsCorner
import Derived.Test.YtbnhckhbjoldcaaPxLawC
import Derived.Test.YtbnhckhbjoldcaaPxLawsFnExactIsCorner
import Derived.Test.YtbnhckhbjoldcaaPxSpecIsCorner
namespace Go.Proofs.Ytbnhckhbjoldcaa.Pure
open Go.RowKit Go.Proofs.Ytbnhckhbjoldcaa.P Go.Proofs.YtbnhckhbjoldcaaW.PrintWords Go.Proofs.YtbnhckhbjoldcaaW.PrintLast Go.Proofs.YtbnhckhbjoldcaaW.PrintMore Go.Proofs.Ytbnhckhbjoldcaa.Gr

theorem corner_both (s : Int) (l : List S82) (L : List Int) (x : Int) (hl : l.length ≤ 1048576) (hL : L.length ≤ 1048576) : ∃ r b, Ev (fun k => spec_IsCorner.f k s l L x) (r, b) ∧ Ev (fun k => impl_IsCorner.f k s l L x) (r, b) := by
  obtain ⟨b, hb, hS, hI⟩ := both_sets s l L hl hL
  have iJ : Cm (fun k => impl_IsCorner.j0 k L x true s l) (fun z => z = (false, false)) := Cm.step (fun k => by simp only [impl_IsCorner.j0, if_true]; try rfl) (Cm.now rfl)
  cases b with
  | false =>
    refine ⟨false, false, Cm.ev ?_, Cm.ev ?_⟩
    · exact Cm.bindE hS (Cm.neg (by decide) (Cm.now rfl))
    · exact Cm.bindE hI (Cm.neg (by decide) iJ)
  | true =>
    obtain ⟨hG, hO, hset⟩ := hb rfl
    have h8 := hG.2.1
    by_cases hx : x ∈ L
    · obtain ⟨m, hm, hbit, hN⟩ := net_ev s l hl hG
      obtain ⟨M, eM, hM1, hM2⟩ := mask_cm L hL (fun y hy => by have := hset.1 y hy; omega)
      have hc1 := cover_ev s l hl hG L hL hset.2 hset.1 (inL L) (fun b _ _ => (decide_eq_true_iff (p := b ∈ L)).symm) x (hset.1 x hx)
      have hc2 := covers_impl s l hG m ⟨hm, hbit⟩ (inL L) M (mask_set hset hM1 hM2) x (hset.1 x hx)
      refine ⟨decide ((covs s l (inL L) x).headD (-1) ≥ 0), true, Cm.ev ?_, Cm.ev ?_⟩
      · exact Cm.bindE hS (Cm.pos rfl (Cm.bindE (has_ev L x hL) (Cm.pos (decide_eq_true hx) (Cm.bindE hc1 (Cm.now rfl)))))
      · refine Cm.bindE hI (Cm.pos rfl (Cm.bindE (contains_ev L x hL) ?_))
        rw [decide_eq_true hx]
        refine Cm.step (fun k => by simp only [impl_IsCorner.j0, Bool.not_true, Bool.false_eq_true, if_false]; try rfl) ?_
        refine Cm.bindE hN (Cm.bindE eM (Cm.bindE hc2 (Cm.now ?_)))
        congr 1
        rw [decide_eq_decide]
        cases h : covs s l (inL L) x with
        | nil => simp
        | cons y t =>
          have : y ∈ covs s l (inL L) x := by rw [h]; exact List.mem_cons_self
          have := (mem_covs.1 this).2.1.1
          rw [List.headD_cons, List.length_cons]
          omega
    · refine ⟨false, false, Cm.ev ?_, Cm.ev ?_⟩
      · exact Cm.bindE hS (Cm.pos rfl (Cm.bindE (has_ev L x hL) (Cm.neg (by simpa using hx) (Cm.now rfl))))
      · refine Cm.bindE hI (Cm.pos rfl (Cm.bindE (contains_ev L x hL) ?_))
        rw [decide_eq_false hx]
        exact iJ

theorem FnExactIsCorner : laws_FnExactIsCorner.Pure := by
  intro s0 l0 L1 x2 hs0 hl0 hx0 hm1 hw1 hw2
  refine Ev.rounds (Cm.ev ?_)
  unfold laws_FnExactIsCorner.f
  refine Cm.ite (fun _ => Cm.now rfl) (fun cL1 => ?_)
  by_cases c0 : (1048576 : Int) - l0.length < 0
  · exact Cm.bindE (sz_ev (sz_big s0 l0 hl0 c0)) (Cm.pos (by decide) (Cm.now rfl))
  refine Cm.bindE (sz_ev (sz_small s0 l0 (by omega))) (Cm.neg c0 ?_)
  obtain ⟨r, b, E1, E2⟩ := corner_both s0 l0 L1 x2 (by omega) (by omega)
  have a_b : ¬ (b != b) = true := by cases b <;> decide
  have a_r : ¬ (r != r) = true := by cases r <;> decide
  repeat first
    | with_reducible exact Cm.now rfl
    | refine Cm.bindE (toGraph_ev s0 l0 (by omega)) ?_
    | refine Cm.bindE (toI_ev L1 (by omega)) ?_
    | refine Cm.bindE E1 ?_
    | refine Cm.bindE E2 ?_
    | refine Cm.bindE (eqGraph_ev s0 l0 (by omega)) (Cm.pos rfl ?_)
    | refine Cm.bindE (eqI_ev L1 (by omega)) (Cm.pos rfl ?_)
    | refine Cm.neg a_b ?_
    | refine Cm.neg a_r ?_
    | refine Cm.neg (by omega) ?_
    | refine Cm.pos (by omega) ?_
    | refine Cm.pos rfl ?_
    | dsimp only

end Go.Proofs.Ytbnhckhbjoldcaa.Pure
