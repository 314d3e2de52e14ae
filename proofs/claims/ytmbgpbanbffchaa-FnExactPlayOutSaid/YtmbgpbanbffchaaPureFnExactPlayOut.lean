/- The pure law FnExactPlayOut: both move in turn until the robber is caught. -/
import Derived.Test.YtmbgpbanbffchaaGrCm
import Derived.Test.YtmbgpbanbffchaaGrTw
import Derived.Test.YtmbgpbanbffchaaGrBP
import Derived.Test.YtmbgpbanbffchaaGrB
import Derived.Test.YtmbgpbanbffchaaPxImplPlayOut
import Derived.Test.YtmbgpbanbffchaaPxLawsFnExactPlayOut
import Derived.Test.YtmbgpbanbffchaaPxSpecPlayOut
namespace Go.Proofs.Ytmbgpbanbffchaa.Pure
open Go.RowKit Go.Proofs.Ytmbgpbanbffchaa.P Go.Proofs.YtmbgpbanbffchaaW.PrintWords Go.Proofs.YtmbgpbanbffchaaW.PrintLast Go.Proofs.YtmbgpbanbffchaaW.PrintMore Go.Proofs.Ytmbgpbanbffchaa.Gr

theorem play (s : Int) (l : List S75) (hl : l.length ≤ 1048576) (hG : Gr.Good s l) (m : List Int) (hN : Net s l m) (N : Int) (hN1 : N ≤ 100) (Z : Int → Int → Int) (hZ : Tim s (Bl s l) N Z) : ∀ (d : Nat) (c r : Int) (es : List S75), (0 ≤ c ∧ c < s) → (0 ≤ r ∧ r < s) → 0 ≤ Z c r → Z c r ≤ d → es.length + d ≤ 1000 →
    ∃ out, out.length ≤ 1000 ∧ Ev (fun k => spec_PlayOut.l0 k c r (mk s Z) es s l) (out, true) ∧ Ev (fun k => impl_PlayOut.l0 k c r (mk s Z) es m) (out, true) := by
  have h0 := hG.1
  have hml : ((mk s Z).length : Int) = s := by rw [mk_len, Int.toNat_of_nonneg h0]
  intro d
  induction d with
  | zero =>
    intro c r es hc hr h1 h2 hes
    have e : c = r := (hZ.a c r hc hr).2.2.1 (by omega)
    exact ⟨es, by omega, Cm.ev (Cm.step (fun k => by simp only [spec_PlayOut.l0, if_pos e]; try rfl) (Cm.now rfl)), Cm.ev (Cm.step (fun k => by simp only [impl_PlayOut.l0, if_pos e]; try rfl) (Cm.now rfl))⟩
  | succ d ih =>
    intro c r es hc hr h1 h2 hes
    by_cases e : c = r
    · exact ⟨es, by omega, Cm.ev (Cm.step (fun k => by simp only [spec_PlayOut.l0, if_pos e]; try rfl) (Cm.now rfl)), Cm.ev (Cm.step (fun k => by simp only [impl_PlayOut.l0, if_pos e]; try rfl) (Cm.now rfl))⟩
    · have hne : Z c r ≠ 0 := fun h => e ((hZ.a c r hc hr).2.2.1 h)
      obtain ⟨y, hyB, hya, c1, c2⟩ := chase_both s l hl hG m hN N hN1 Z hZ c r hc hr (by omega)
      have hy := bl_bal (s := s) (l := l) c hc y hyB
      by_cases e2 : y = r
      · have hz0 : Z y r = 0 := (hZ.a y r hy hr).2.2.2 e2
        obtain ⟨out, ho, o1, o2⟩ := ih y r (es ++ [(⟨y, r⟩ : S75)]) hy hr (by omega) (by omega) (by rw [List.length_append, List.length_singleton]; omega)
        refine ⟨out, ho, Cm.ev ?_, Cm.ev ?_⟩
        · refine Cm.step (fun k => by simp only [spec_PlayOut.l0, if_neg e]; try rfl) ?_
          exact Cm.bindE c1 (Cm.pos e2 (Cm.pos (by omega) (Ev.cm o1)))
        · refine Cm.step (fun k => by simp only [impl_PlayOut.l0, if_neg e]; try rfl) ?_
          exact Cm.bindE c2 (Cm.pos e2 (Cm.pos (by omega) (Ev.cm o2)))
      · obtain ⟨x, hxB, f1, f2⟩ := flee_both s l hl hG m hN Z y r hy hr
        have hx := bl_bal (s := s) (l := l) r hr x hxB
        have haw : after Z (Bl s l) y r = worst (Z y) (Bl s l r) 0 := by unfold after; rw [if_neg e2]
        rw [haw] at hya
        have hall := (worst_iff (f := Z y) (L := Bl s l r) (Int.le_refl 0)).1 (by omega)
        have hle := (worst_pos (f := Z y) (Bl s l r) 0 hall).2.1 x hxB
        have hx0 := hall x hxB
        obtain ⟨out, ho, o1, o2⟩ := ih y x (es ++ [(⟨y, x⟩ : S75)]) hy hx (by omega) (by omega) (by rw [List.length_append, List.length_singleton]; omega)
        refine ⟨out, ho, Cm.ev ?_, Cm.ev ?_⟩
        · refine Cm.step (fun k => by simp only [spec_PlayOut.l0, if_neg e]; try rfl) ?_
          exact Cm.bindE c1 (Cm.neg e2 (Cm.bindE f1 (Cm.pos (by omega) (Ev.cm o1))))
        · refine Cm.step (fun k => by simp only [impl_PlayOut.l0, if_neg e]; try rfl) ?_
          exact Cm.bindE c2 (Cm.neg e2 (Cm.pos hy.1 (Cm.pos (by rw [hml]; exact hy.2) (Cm.bindE f2 (Cm.pos (by omega) (Ev.cm o2))))))

theorem both (s : Int) (l : List S75) (c r : Int) (hl : l.length ≤ 1048576) : ∃ es b, es.length ≤ 1048576 ∧ Ev (fun k => spec_PlayOut.f k s l c r) (es, b) ∧ Ev (fun k => impl_PlayOut.f k s l c r) (es, b) := by
  obtain ⟨b, hb, hS, hI⟩ := isGraph_full s l hl
  cases b with
  | false => exact ⟨[], false, by simp, Cm.ev (Cm.bindE (two_spec_not s l c r hS) (Cm.neg (by decide) (Cm.now rfl))), Cm.ev (Cm.bindE (has_not s l _ hI) (Cm.neg (by decide) (Cm.now rfl)))⟩
  | true =>
    obtain ⟨hG, _⟩ := hb rfl
    have h0 := hG.1
    have e1 := two_spec s l c r hG hS
    have e2 := two_impl s l c r hG hI
    by_cases hcr : (0 ≤ c ∧ c < s) ∧ (0 ≤ r ∧ r < s)
    · rw [decide_eq_true hcr.1, decide_eq_true hcr.2] at e1 e2
      obtain ⟨hc, hr⟩ := hcr
      obtain ⟨m, hm, hbit, hN⟩ := net_ev s l hl hG
      obtain ⟨N, Z, hN1, hZ, t1, t2⟩ := times_both s l hl hG m ⟨hm, hbit⟩
      have hml : ((mk s Z).length : Int) = s := by rw [mk_len, Int.toNat_of_nonneg h0]
      have hrow := rowL Z c hc
      have hrl : (((V s).map (Z c)).length : Int) = s := by rw [mapV_len, Int.toNat_of_nonneg h0]
      have hrd := rd_mapV s (Z c) r hr.1 hr.2
      have hS2 : ∀ {z : List S75 × Bool}, Cm (fun k => if Z c r < 0 then (some (([] : List S75), false)) else (spec_PlayOut.l0 k c r (mk s Z) [⟨c, r⟩] s l)) (fun x => x = z) → Ev (fun k => spec_PlayOut.f k s l c r) z := fun h => Cm.ev (Cm.bindE e1 (Cm.pos rfl (Cm.bindE t1 (Cm.pos hc.1 (Cm.pos (by rw [hml]; exact hc.2) (Cm.pos hr.1 (Cm.pos (by rw [hrow, hrl]; exact hr.2) (Cm.congr (fun k => by rw [hrow, hrd]) h))))))))
      have hI2 : ∀ {z : List S75 × Bool}, Cm (fun k => if Z c r < 0 then (some (([] : List S75), false)) else (impl_PlayOut.l0 k c r (mk s Z) [⟨c, r⟩] m)) (fun x => x = z) → Ev (fun k => impl_PlayOut.f k s l c r) z := fun h => Cm.ev (Cm.bindE e2 (Cm.pos rfl (Cm.bindE hN (Cm.bindE t2 (Cm.pos hc.1 (Cm.pos (by rw [hml]; exact hc.2) (Cm.pos hr.1 (Cm.pos (by rw [hrow, hrl]; exact hr.2) (Cm.congr (fun k => by rw [hrow, hrd]) h)))))))))
      by_cases h1 : Z c r < 0
      · exact ⟨[], false, by simp, hS2 (Cm.pos h1 (Cm.now rfl)), hI2 (Cm.pos h1 (Cm.now rfl))⟩
      · have hle := (hZ.a c r hc hr).2.1
        obtain ⟨out, ho, o1, o2⟩ := play s l hl hG m ⟨hm, hbit⟩ N hN1 Z hZ 100 c r [⟨c, r⟩] hc hr (by omega) (by omega) (by simp)
        exact ⟨out, true, by omega, hS2 (Cm.neg h1 (Ev.cm o1)), hI2 (Cm.neg h1 (Ev.cm o2))⟩
    · have hf : (decide (0 ≤ c ∧ c < s) && decide (0 ≤ r ∧ r < s)) = false := by
        rw [Bool.eq_false_iff]
        intro h
        rw [Bool.and_eq_true, decide_eq_true_eq, decide_eq_true_eq] at h
        exact hcr h
      rw [hf] at e1 e2
      exact ⟨[], false, by simp, Cm.ev (Cm.bindE e1 (Cm.neg (by decide) (Cm.now rfl))), Cm.ev (Cm.bindE e2 (Cm.neg (by decide) (Cm.now rfl)))⟩

theorem FnExactPlayOut : laws_FnExactPlayOut.Pure := by
  intro s0 l0 x1 x2 hs0 hl0 hx0 hw1 hw2
  refine Ev.rounds (Cm.ev ?_)
  unfold laws_FnExactPlayOut.f
  by_cases c0 : (1048576 : Int) - l0.length < 0
  · exact Cm.bindE (sz_ev (sz_big s0 l0 hl0 c0)) (Cm.pos (by decide) (Cm.now rfl))
  refine Cm.bindE (sz_ev (sz_small s0 l0 (by omega))) (Cm.neg c0 ?_)
  obtain ⟨es, b, he, E1, E2⟩ := both s0 l0 x1 x2 (by omega)
  obtain ⟨r0, M0⟩ := mark_at s0 l0 ((1 : Int)) (by omega) (by omega) (by omega)
  obtain ⟨re, E3, E4⟩ := mark_heldP es (by omega)
  have a_b : ¬ (b != b) = true := by cases b <;> decide
  repeat first
    | with_reducible exact Cm.now rfl
    | refine Cm.bindE (toGraph_ev s0 l0 (by omega)) ?_
    | refine Cm.bindE E1 ?_
    | refine Cm.bindE E2 ?_
    | refine Cm.bindE (eqP_ev es (by omega)) (Cm.pos rfl ?_)
    | refine Cm.bindE (eqGraph_ev s0 l0 (by omega)) (Cm.pos rfl ?_)
    | refine Cm.bindE M0 ?_
    | refine Cm.bindE E3 ?_
    | refine Cm.bindE E4 ?_
    | refine Cm.neg a_b ?_
    | refine Cm.neg (by omega) ?_
    | refine Cm.pos (by omega) ?_
    | refine Cm.pos rfl ?_
    | dsimp only

end Go.Proofs.Ytmbgpbanbffchaa.Pure
