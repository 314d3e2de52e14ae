/- The pure law FnExactPutBeside: both lay the pairs of the first graph, and behind them those of the second one, moved by the first one's size. -/
import Derived.Test.YtooeemiljeeoaaaGrG
import Derived.Test.YtooeemiljeeoaaaGrB
import Derived.Test.YtooeemiljeeoaaaGrC
import Derived.Test.YtooeemiljeeoaaaPxImplPutBeside
import Derived.Test.YtooeemiljeeoaaaPxLawsFnExactPutBeside
import Derived.Test.YtooeemiljeeoaaaPxSpecPutBeside
namespace Go.Proofs.Ytooeemiljeeoaaa.Pure
open Go.RowKit Go.Proofs.Ytooeemiljeeoaaa.P Go.Proofs.YtooeemiljeeoaaaW.PrintWords Go.Proofs.YtooeemiljeeoaaaW.PrintLast Go.Proofs.Ytooeemiljeeoaaa.Gr

/-- A pair moved by d. -/
def sh (d : Int) (e : S57) : S57 := ⟨wrap64 (e.f0 + d), wrap64 (e.f1 + d)⟩

theorem drop_rd (l : List S57) (i : Int) (h0 : 0 ≤ i) (h1 : i < l.length) : l.drop i.toNat = rd_T57 l i :: l.drop (i + 1).toNat := by
  have e : (i + 1).toNat = i.toNat + 1 := by omega
  rw [e, List.drop_eq_getElem_cons (by omega)]
  congr 1
  have := rd_lt l i h0 h1
  rw [List.getElem?_eq_getElem (by omega)] at this
  exact Option.some.inj this

theorem spec_loop (s t n : Int) (l m T : List S57) (hm : m.length ≤ 1048576) (i : Int) (a : List S57) (hi : i ≤ m.length) (hI : 0 ≤ i ∧ (a.length : Int) ≤ 1048576 + i ∧ a ++ (m.drop i.toNat).map (sh s) = T) :
    Cm (fun k => spec_PutBeside.l0 k i s l t m n a) (fun x => x = (n, T, true)) := by
  refine Cm.up (fun k i a => spec_PutBeside.l0 k i s l t m n a) m.length (fun i a => 0 ≤ i ∧ (a.length : Int) ≤ 1048576 + i ∧ a ++ (m.drop i.toNat).map (sh s) = T) _ ?_ i a hi hI
  intro i a hi ⟨h0, hl, hT⟩ ih
  by_cases h : i < m.length
  · rw [drop_rd m i h0 h, List.map_cons] at hT
    refine Cm.step (fun k => by simp (disch := omega) only [spec_PutBeside.l0, w64 (i + 1), if_pos]; rfl) (ih _ h ⟨by omega, by rw [List.length_append, List.length_singleton]; omega, ?_⟩)
    rw [← hT, List.append_assoc]
    rfl
  · refine Cm.step (fun k => by simp (disch := omega) only [spec_PutBeside.l0, if_neg]; rfl) (Cm.now ?_)
    rw [List.drop_eq_nil_of_le (by omega), List.map_nil, List.append_nil] at hT
    rw [hT]

theorem impl_loop (s n : Int) (l m T : List S57) (hm : m.length ≤ 1048576) (i : Int) (a : List S57) (hi : i ≤ m.length) (hI : 0 ≤ i ∧ (a.length : Int) ≤ 1048576 + i ∧ a ++ (m.drop i.toNat).map (sh s) = T) :
    Cm (fun k => impl_PutBeside.l0 k m m.length i s l n a) (fun x => x = (n, T, true)) := by
  refine Cm.up (fun k i a => impl_PutBeside.l0 k m m.length i s l n a) m.length (fun i a => 0 ≤ i ∧ (a.length : Int) ≤ 1048576 + i ∧ a ++ (m.drop i.toNat).map (sh s) = T) _ ?_ i a hi hI
  intro i a hi ⟨h0, hl, hT⟩ ih
  by_cases h : i < m.length
  · rw [drop_rd m i h0 h, List.map_cons] at hT
    refine Cm.step (fun k => by simp (disch := omega) only [impl_PutBeside.l0, w64 (i + 1), if_pos]; rfl) (ih _ h ⟨by omega, by rw [List.length_append, List.length_singleton]; omega, ?_⟩)
    rw [← hT, List.append_assoc]
    rfl
  · refine Cm.step (fun k => by simp (disch := omega) only [impl_PutBeside.l0, if_neg]; rfl) (Cm.now ?_)
    rw [List.drop_eq_nil_of_le (by omega), List.map_nil, List.append_nil] at hT
    rw [hT]

theorem both (s t : Int) (l m : List S57) (hl : l.length ≤ 1048576) (hm : m.length ≤ 1048576) : ∃ n es b, es.length ≤ l.length + m.length ∧ Ev (fun k => spec_PutBeside.f k s l t m) (n, es, b) ∧ Ev (fun k => impl_PutBeside.f k s l t m) (n, es, b) := by
  obtain ⟨b1, hg1, hS1, hI1⟩ := isGraph_both s l hl
  obtain ⟨b2, hg2, hS2, hI2⟩ := isGraph_both t m hm
  by_cases hc : b1 = true ∧ b2 = true ∧ s + t ≤ 8
  · obtain ⟨rfl, rfl, h8⟩ := hc
    have g1 := hg1 rfl
    have g2 := hg2 rfl
    have a1 := g1.1
    have a2 := g2.1
    refine ⟨s + t, l ++ m.map (sh s), true, by simp, Cm.ev ?_, Cm.ev ?_⟩
    · unfold spec_PutBeside.f
      refine Cm.bindE hS1 (Cm.pos rfl (Cm.bindE hS2 (Cm.pos rfl ?_)))
      have hd : decide (wrap64 (s + t) > 8) = false := by rw [w64 (s + t) (by omega) (by omega)]; exact decide_eq_false (by omega)
      rw [hd]
      refine Cm.step (fun k => by simp (disch := omega) only [spec_PutBeside.j0, w64 (s + t), Bool.false_eq_true, if_false, Option.bind_some, List.nil_append, List.length_nil, Nat.zero_add, if_pos]; rfl) ?_
      exact spec_loop s t (s + t) l m _ hm 0 l (by omega) ⟨by omega, by omega, rfl⟩
    · unfold impl_PutBeside.f
      refine Cm.bindE hI1 (Cm.pos rfl (Cm.bindE hI2 (Cm.pos rfl ?_)))
      have hd : decide (wrap64 (s + t) > 8) = false := by rw [w64 (s + t) (by omega) (by omega)]; exact decide_eq_false (by omega)
      rw [hd]
      refine Cm.step (fun k => by simp (disch := omega) only [impl_PutBeside.j0, slices_Clone_2_int_2_int.f, w64 (s + t), Bool.false_eq_true, if_false, Option.bind_some, if_pos]; rfl) ?_
      exact impl_loop s (s + t) l m _ hm 0 l (by omega) ⟨by omega, by omega, rfl⟩
  · have sj : ∀ k, spec_PutBeside.j0 (k + 1) true s l t m = some (0, [], false) := fun k => by simp only [spec_PutBeside.j0, if_true]
    have ij : ∀ k, impl_PutBeside.j0 (k + 1) true s l t m = some (0, [], false) := fun k => by simp only [impl_PutBeside.j0, if_true]
    have sJ : Cm (fun k => spec_PutBeside.j0 k true s l t m) (fun x => x = (0, [], false)) := Cm.step sj (Cm.now rfl)
    have iJ : Cm (fun k => impl_PutBeside.j0 k true s l t m) (fun x => x = (0, [], false)) := Cm.step ij (Cm.now rfl)
    refine ⟨0, [], false, by simp, Cm.ev ?_, Cm.ev ?_⟩
    · unfold spec_PutBeside.f
      refine Cm.bindE hS1 (Cm.ite (fun h1 => Cm.bindE hS2 (Cm.ite (fun h2 => ?_) (fun _ => sJ))) (fun _ => sJ))
      have g1 := hg1 h1
      have g2 := hg2 h2
      have a1 := g1.1
      have a2 := g2.1
      have a3 := g1.2.1
      have a4 := g2.2.1
      have hd : decide (wrap64 (s + t) > 8) = true := by rw [w64 (s + t) (by omega) (by omega)]; exact decide_eq_true (Int.not_le.1 (fun h => hc ⟨h1, h2, h⟩))
      rw [hd]
      exact sJ
    · unfold impl_PutBeside.f
      refine Cm.bindE hI1 (Cm.ite (fun h1 => Cm.bindE hI2 (Cm.ite (fun h2 => ?_) (fun _ => iJ))) (fun _ => iJ))
      have g1 := hg1 h1
      have g2 := hg2 h2
      have a1 := g1.1
      have a2 := g2.1
      have a3 := g1.2.1
      have a4 := g2.2.1
      have hd : decide (wrap64 (s + t) > 8) = true := by rw [w64 (s + t) (by omega) (by omega)]; exact decide_eq_true (Int.not_le.1 (fun h => hc ⟨h1, h2, h⟩))
      rw [hd]
      exact iJ

theorem FnExactPutBeside : laws_FnExactPutBeside.Pure := by
  intro s l t m hs hl hx ht hm hy
  refine Ev.rounds (Cm.ev ?_)
  unfold laws_FnExactPutBeside.f
  by_cases c1 : (1048576 : Int) - l.length < 0
  · exact Cm.bindE (sz_ev (sz_big s l hl c1)) (Cm.pos (by decide) (Cm.now rfl))
  refine Cm.bindE (sz_ev (sz_small s l (by omega))) (Cm.neg c1 ?_)
  by_cases c2 : (1048576 : Int) - l.length - m.length < 0
  · exact Cm.bindE (sz_ev (sz_bigR t m _ hm (by omega) (by omega) c2)) (Cm.pos (by decide) (Cm.now rfl))
  refine Cm.bindE (sz_ev (sz_smallR t m _ (by omega) (by omega))) (Cm.neg c2 ?_)
  obtain ⟨n, es, b, he, E1, E2⟩ := both s t l m (by omega) (by omega)
  obtain ⟨r, E3, E4⟩ := mark_held n es (by omega)
  obtain ⟨r1, M1, _⟩ := mark_held s l (by omega)
  obtain ⟨r2, M2⟩ := mark_at t m (1 + 2 * (l.length : Int)) (by omega) (by omega) (by omega)
  have a3 : ¬ (b != b) = true := by cases b <;> decide
  repeat first
    | with_reducible exact Cm.now rfl
    | refine Cm.bindE (toGraph_ev s l (by omega)) ?_
    | refine Cm.bindE (toGraph_ev t m (by omega)) ?_
    | refine Cm.bindE E1 ?_
    | refine Cm.bindE E2 ?_
    | refine Cm.bindE (eqGraph_ev n es (by omega)) (Cm.pos rfl ?_)
    | refine Cm.bindE (eqGraph_ev s l (by omega)) (Cm.pos rfl ?_)
    | refine Cm.bindE (eqGraph_ev t m (by omega)) (Cm.pos rfl ?_)
    | refine Cm.bindE M1 ?_
    | refine Cm.bindE M2 ?_
    | refine Cm.bindE E3 ?_
    | refine Cm.bindE E4 ?_
    | refine Cm.neg a3 ?_
    | refine Cm.neg (by omega) ?_
    | refine Cm.pos (by omega) ?_
    | dsimp only

end Go.Proofs.Ytooeemiljeeoaaa.Pure
