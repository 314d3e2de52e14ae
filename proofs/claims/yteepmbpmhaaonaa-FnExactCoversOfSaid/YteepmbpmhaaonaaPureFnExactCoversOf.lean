/- The pure law FnExactCoversOf: both tell the nodes that cover a node in the set of all nodes. -/
import Derived.Test.YteepmbpmhaaonaaGrRb
import Derived.Test.YteepmbpmhaaonaaGrH
import Derived.Test.YteepmbpmhaaonaaGrZ
import Derived.Test.YteepmbpmhaaonaaGrJ
import Derived.Test.YteepmbpmhaaonaaGrB
import Derived.Test.YteepmbpmhaaonaaPxImplCoversOf
import Derived.Test.YteepmbpmhaaonaaPxLawsFnExactCoversOf
import Derived.Test.YteepmbpmhaaonaaPxSpecCoversOf
namespace Go.Proofs.Yteepmbpmhaaonaa.Pure
open Go.RowKit Go.Proofs.Yteepmbpmhaaonaa.P Go.Proofs.YteepmbpmhaaonaaW.PrintWords Go.Proofs.YteepmbpmhaaonaaW.PrintLast Go.Proofs.YteepmbpmhaaonaaW.PrintMore Go.Proofs.Yteepmbpmhaaonaa.Gr

open Classical in
theorem covers_loop (s : Int) (l : List S65) (x : Int) (hl : l.length ≤ 1048576) (hG : Gr.Good s l) (hx : 0 ≤ x ∧ x < s) : Ev (fun k => spec_CoversOf.l0 k x [] 0 s l) (covs s l (fun _ => true) x, true) := by
  refine Cm.ev ?_
  have h8 := hG.2.1
  have h0 := hG.1
  have hA := all_ev s l h0 h8
  have hAl : ((V s).filter (fun _ => true)).length ≤ s.toNat := VF_len
  refine Cm.up (fun k i a => spec_CoversOf.l0 k x a i s l) s (fun i a => 0 ≤ i ∧ a = (V i).filter (fun y => decide (Cov s l (fun _ => true) x y))) _ ?_ 0 [] (by omega) ⟨by omega, rfl⟩
  rintro i a hi ⟨i0, rfl⟩ ih
  have hal : ((V i).filter (fun y => decide (Cov s l (fun _ => true) x y))).length ≤ i.toNat := VF_len
  by_cases h : i < s
  · refine Cm.step (fun k => by simp (disch := omega) only [spec_CoversOf.l0, if_pos h, w64 (i + 1)]; try rfl) ?_
    refine Cm.bindE hA (Cm.bind (covers_cm s l hl hG ((V s).filter (fun _ => true)) (by omega) (fun y hy => (mem_VF.1 hy).1) (fun _ => true) (fun b b0 b1 => by rw [mem_VF]; exact ⟨fun _ => rfl, fun _ => ⟨⟨b0, b1⟩, rfl⟩⟩) x i hx) ?_)
    intro b hb
    refine Cm.ite (fun e => Cm.pos (by omega) (ih _ h ⟨by omega, ?_⟩)) (fun e => ih _ h ⟨by omega, ?_⟩)
    · rw [VF_succ i0, if_pos (decide_eq_true (hb.1 e))]
    · rw [VF_succ i0, if_neg (fun e' => e (hb.2 (of_decide_eq_true e'))), List.append_nil]
  · refine Cm.step (fun k => by simp only [spec_CoversOf.l0, if_neg h]; try rfl) (Cm.now ?_)
    rw [show i = s by omega]
    rfl

theorem both (s : Int) (l : List S65) (x : Int) (hl : l.length ≤ 1048576) : ∃ r b, r.length ≤ 1048576 ∧ Ev (fun k => spec_CoversOf.f k s l x) (r, b) ∧ Ev (fun k => impl_CoversOf.f k s l x) (r, b) := by
  obtain ⟨b, hb, hS, hI⟩ := isGraph_full s l hl
  cases b with
  | false =>
    refine ⟨[], false, by simp, Cm.ev ?_, Cm.ev ?_⟩
    · refine Cm.bindE (Ev.now _) (Cm.bindE hS (Cm.neg (by decide) ?_))
      exact Cm.step (fun k => by simp only [spec_CoversOf.j0, if_true]; try rfl) (Cm.now rfl)
    · exact Cm.bindE (has_not s l _ hI) (Cm.neg (by decide) (Cm.now rfl))
  | true =>
    obtain ⟨hG, hO⟩ := hb rfl
    have h8 := hG.2.1
    have h0 := hG.1
    have hH := has_one s l x hG hI
    by_cases hx : 0 ≤ x ∧ x < s
    · rw [decide_eq_true hx] at hH
      obtain ⟨m, hm, hbit, hN⟩ := net_ev s l hl hG
      refine ⟨covs s l (fun _ => true) x, true, by have := covs_len s l (fun _ => true) x; omega, Cm.ev ?_, Cm.ev ?_⟩
      · refine Cm.bindE (Ev.now _) (Cm.bindE hS (Cm.pos rfl ?_))
        rw [node_eq s l x hG, decide_eq_true hx]
        refine Cm.bindE (Ev.now _) (Cm.step (fun k => by simp only [spec_CoversOf.j0, Bool.not_true, Bool.false_eq_true, if_false]; try rfl) (Ev.cm (covers_loop s l x hl hG hx)))
      · refine Cm.bindE hH (Cm.pos rfl (Cm.bindE hN ?_))
        unfold impl_net_all.f
        rw [hm.1]
        refine Cm.bindE (sz_ev rfl) (Cm.bindE (covers_impl s l hG m ⟨hm, hbit⟩ (fun _ => true) _ (mask_all h0 h8) x hx) (Cm.now rfl))
    · rw [decide_eq_false hx] at hH
      refine ⟨[], false, by simp, Cm.ev ?_, Cm.ev ?_⟩
      · refine Cm.bindE (Ev.now _) (Cm.bindE hS (Cm.pos rfl ?_))
        rw [node_eq s l x hG, decide_eq_false hx]
        exact Cm.bindE (Ev.now _) (Cm.step (fun k => by simp only [spec_CoversOf.j0, Bool.not_false, if_true]; try rfl) (Cm.now rfl))
      · exact Cm.bindE hH (Cm.neg (by decide) (Cm.now rfl))

theorem FnExactCoversOf : laws_FnExactCoversOf.Pure := by
  intro s0 l0 x1 hs0 hl0 hx0 hw1
  refine Ev.rounds (Cm.ev ?_)
  unfold laws_FnExactCoversOf.f
  by_cases c0 : (1048576 : Int) - l0.length < 0
  · exact Cm.bindE (sz_ev (sz_big s0 l0 hl0 c0)) (Cm.pos (by decide) (Cm.now rfl))
  refine Cm.bindE (sz_ev (sz_small s0 l0 (by omega))) (Cm.neg c0 ?_)
  obtain ⟨es, b, he, E1, E2⟩ := both s0 l0 x1 (by omega)
  obtain ⟨r0, M0⟩ := mark_at s0 l0 ((1 : Int)) (by omega) (by omega) (by omega)
  obtain ⟨re, E3, E4⟩ := mark_heldI es (by omega)
  have a_b : ¬ (b != b) = true := by cases b <;> decide
  repeat first
    | with_reducible exact Cm.now rfl
    | refine Cm.bindE (toGraph_ev s0 l0 (by omega)) ?_
    | refine Cm.bindE E1 ?_
    | refine Cm.bindE E2 ?_
    | refine Cm.bindE (eqI_ev es (by omega)) (Cm.pos rfl ?_)
    | refine Cm.bindE (eqGraph_ev s0 l0 (by omega)) (Cm.pos rfl ?_)
    | refine Cm.bindE M0 ?_
    | refine Cm.bindE E3 ?_
    | refine Cm.bindE E4 ?_
    | refine Cm.neg a_b ?_
    | refine Cm.neg (by omega) ?_
    | refine Cm.pos (by omega) ?_
    | refine Cm.pos rfl ?_
    | dsimp only

end Go.Proofs.Yteepmbpmhaaonaa.Pure
