/- The pure law FnExactStrongProduct: both lay the pairs of pairs that the product has. -/
import Derived.Test.YtooeemiljeeoaaaGrPr
import Derived.Test.YtooeemiljeeoaaaGrB
import Derived.Test.YtooeemiljeeoaaaGrBH
import Derived.Test.YtooeemiljeeoaaaPxImplStrongProduct
import Derived.Test.YtooeemiljeeoaaaPxLawsFnExactStrongProduct
import Derived.Test.YtooeemiljeeoaaaPxSpecStrongProduct
namespace Go.Proofs.Ytooeemiljeeoaaa.Pure
open Go.RowKit Go.Proofs.Ytooeemiljeeoaaa.P Go.Proofs.YtooeemiljeeoaaaW.PrintWords Go.Proofs.YtooeemiljeeoaaaW.PrintLast Go.Proofs.YtooeemiljeeoaaaW.PrintMore Go.Proofs.Ytooeemiljeeoaaa.Gr

theorem clo (s t : Int) (l m : List S57) (hg : Gr.Good s l) (hg2 : Gr.Good t m) (v w : List Int) (hv : Masks s v) (hvb : ∀ x y : Int, 0 ≤ x → x < s → 0 ≤ y → y < 8 → bit (rd v x) y = near l x y) (hw : Masks t w) (hwb : ∀ x y : Int, 0 ≤ x → x < t → 0 ≤ y → y < 8 → bit (rd w x) y = near m x y) (x y : Int) (x0 : 0 ≤ x) (xy : x < y) (yn : y < s * t) : impl_graphBy_productS.c t 0 v w x y = some (prodH true l m t x y) := by
  have h := hg.1
  have h' := hg.2.1
  have k := hg2.1
  have k' := hg2.2.1
  have ht : 0 < t := by
    rcases Int.lt_or_eq_of_le k with c | c
    · exact c
    · rw [← c, Int.mul_zero] at yn
      omega
  obtain ⟨a0, a1, a2, a3, a4⟩ := div_facts (s := s) ht x0 (show x < s * t by omega)
  obtain ⟨b0, b1, b2, b3, b4⟩ := div_facts (s := s) ht (show 0 ≤ y by omega) yn
  have hne : Int.tdiv x t = Int.tdiv y t → ¬ Int.tmod x t = Int.tmod y t := fun e1 e2 => by
    rw [e1, e2] at a4
    omega
  unfold impl_graphBy_productS.c impl_productOf_1S.f
  rw [if_neg (show ¬ t = 0 by omega), w64 (Int.tdiv x t) (by omega) (by omega), w64 (Int.tdiv y t) (by omega) (by omega), has_near hg hv hvb _ _ a0 a1 b0 b1, Option.bind_some, has_near hg2 hw hwb _ _ a2 a3 b2 b3, Option.bind_some]
  unfold prodH impl_StrongProduct_1.f
  by_cases e1 : Int.tdiv x t = Int.tdiv y t
  · have e2 := hne e1
    rw [e1]
    cases near l (Int.tdiv y t) (Int.tdiv y t) <;> cases near m (Int.tmod x t) (Int.tmod y t) <;> simp [e2]
  · by_cases e2 : Int.tmod x t = Int.tmod y t
    · rw [e2]
      cases near l (Int.tdiv x t) (Int.tdiv y t) <;> cases near m (Int.tmod y t) (Int.tmod y t) <;> simp [e1]
    · cases near l (Int.tdiv x t) (Int.tdiv y t) <;> cases near m (Int.tmod x t) (Int.tmod y t) <;> simp [e1, e2]

theorem both (s : Int) (l : List S57) (t : Int) (m : List S57) (hl : l.length ≤ 1048576) (hm : m.length ≤ 1048576) : ∃ n es b, es.length ≤ 1048576 ∧ Ev (fun k => spec_StrongProduct.f k s l t m) (n, es, b) ∧ Ev (fun k => impl_StrongProduct.f k s l t m) (n, es, b) := by
  obtain ⟨b, hb, hS, hI⟩ := isGraph_full s l hl
  obtain ⟨c, hc, kS, kI⟩ := isGraph_full t m hm
  have sJ : Cm (fun k => spec_l2Product.j0 k true true s l t m) (fun z => z = ((0 : Int), ([] : List S57), false)) := Cm.step (fun k => by simp only [spec_l2Product.j0, if_true]; try rfl) (Cm.now rfl)
  have iJ : Cm (fun k => impl_productOfS.j0 k true s l t m 0) (fun z => z = ((0 : Int), ([] : List S57), false)) := Cm.step (fun k => by simp only [impl_productOfS.j0, if_true]; try rfl) (Cm.now rfl)
  have hS2 : ∀ {z : Int × List S57 × Bool}, Cm (fun k => spec_l2Product.f k s l t m true) (fun x => x = z) → Ev (fun k => spec_StrongProduct.f k s l t m) z := fun h => Cm.ev (Cm.bindE h.ev (Cm.now rfl))
  have hI2 : ∀ {z : Int × List S57 × Bool}, Cm (fun k => impl_productOfS.f k s l t m 0) (fun x => x = z) → Ev (fun k => impl_StrongProduct.f k s l t m) z := fun h => Cm.ev (Cm.bindE (f := fun k => impl_productS.f k s l t m) h.ev (Cm.now rfl))
  cases b with
  | false => exact ⟨0, [], false, by simp, hS2 (Cm.bindE hS (Cm.neg (by decide) sJ)), hI2 (Cm.bindE hI (Cm.neg (by decide) iJ))⟩
  | true =>
    cases c with
    | false => exact ⟨0, [], false, by simp, hS2 (Cm.bindE hS (Cm.pos rfl (Cm.bindE kS (Cm.neg (by decide) sJ)))), hI2 (Cm.bindE hI (Cm.pos rfl (Cm.bindE kI (Cm.neg (by decide) iJ))))⟩
    | true =>
      obtain ⟨hG, _⟩ := hb rfl
      obtain ⟨kG, _⟩ := hc rfl
      obtain ⟨f0, f1, f2⟩ := size_facts hG.1 hG.2.1 kG.1 kG.2.1
      by_cases hbig : s * t > 8
      · refine ⟨0, [], false, by simp, hS2 (Cm.bindE hS (Cm.pos rfl (Cm.bindE kS (Cm.pos rfl ?_)))), hI2 (Cm.bindE hI (Cm.pos rfl (Cm.bindE kI (Cm.pos rfl ?_))))⟩
        · rw [f2, decide_eq_true hbig]
          exact sJ
        · rw [f2, decide_eq_true hbig]
          exact iJ
      · obtain ⟨v, hv, hvb, hvN⟩ := net_ev s l hl hG
        obtain ⟨w, hw, hwb, hwN⟩ := net_ev t m hm kG
        have hcl := clo s t l m hG kG v w hv hvb hw hwb
        have hok : okBy (impl_graphBy_productS.c t 0 v w) (s * t) = true := okBy_all _ _ (fun x y h0 h1 h2 => by rw [hcl x y h0 h1 h2]; rfl)
        have hp : pairs (fun x y => (impl_graphBy_productS.c t 0 v w x y).getD false) (s * t) = pairs (prodH true l m t) (s * t) := pairs_congr _ _ _ (fun x y h0 h1 h2 => by rw [hcl x y h0 h1 h2]; rfl)
        refine ⟨s * t, pairs (prodH true l m t) (s * t), true, by have := pairs_len (prodH true l m t) (s * t) (by omega); omega, hS2 (Cm.bindE hS (Cm.pos rfl (Cm.bindE kS (Cm.pos rfl ?_)))), hI2 (Cm.bindE hI (Cm.pos rfl (Cm.bindE kI (Cm.pos rfl ?_))))⟩
        · rw [f2, decide_eq_false hbig]
          refine Cm.step (fun k => by simp only [spec_l2Product.j0, Bool.false_eq_true, if_false, f2]; try rfl) ?_
          exact prod_all true s t l m hl hm hG kG (s * t) rfl (by omega) (s * t).toNat 0 [] (by omega) (by omega) (by simp)
        · rw [f2, decide_eq_false hbig]
          refine Cm.step (fun k => by simp only [impl_productOfS.j0, Bool.false_eq_true, if_false, f2]; try rfl) ?_
          refine Cm.bindE hvN (Cm.bindE hwN (Cm.bindE (x := (s * t, pairs (prodH true l m t) (s * t))) ?_ (Cm.now rfl)))
          obtain ⟨N, hN⟩ := by_ev (fun x y => (impl_graphBy_productS.c t 0 v w x y).getD false) (s * t) f0 (by omega)
          dsimp only at hN
          refine ⟨N, fun k hk => ?_⟩
          dsimp only
          unfold impl_graphBy_productS.f
          rw [if_pos ⟨⟨f0, by omega⟩, hok⟩, hN k hk, hp]
          rfl

theorem FnExactStrongProduct : laws_FnExactStrongProduct.Pure := by
  intro s0 l0 s1 l1 hs0 hl0 hx0 hs1 hl1 hx1
  refine Ev.rounds (Cm.ev ?_)
  unfold laws_FnExactStrongProduct.f
  by_cases c0 : (1048576 : Int) - l0.length < 0
  · exact Cm.bindE (sz_ev (sz_big s0 l0 hl0 c0)) (Cm.pos (by decide) (Cm.now rfl))
  refine Cm.bindE (sz_ev (sz_small s0 l0 (by omega))) (Cm.neg c0 ?_)
  by_cases c1 : (1048576 : Int) - l0.length - l1.length < 0
  · exact Cm.bindE (sz_ev (sz_bigR s1 l1 _ hl1 (by omega) (by omega) c1)) (Cm.pos (by decide) (Cm.now rfl))
  refine Cm.bindE (sz_ev (sz_smallR s1 l1 _ (by omega) (by omega))) (Cm.neg c1 ?_)
  obtain ⟨n, es, b, he, E1, E2⟩ := both s0 l0 s1 l1 (by omega) (by omega)
  obtain ⟨r0, M0⟩ := mark_at s0 l0 ((1 : Int)) (by omega) (by omega) (by omega)
  obtain ⟨r1, M1⟩ := mark_at s1 l1 ((1 : Int) + 2 * (l0.length : Int)) (by omega) (by omega) (by omega)
  obtain ⟨re, E3, E4⟩ := mark_held n es (by omega)
  have a_b : ¬ (b != b) = true := by cases b <;> decide
  repeat first
    | with_reducible exact Cm.now rfl
    | refine Cm.bindE (toGraph_ev s0 l0 (by omega)) ?_
    | refine Cm.bindE (toGraph_ev s1 l1 (by omega)) ?_
    | refine Cm.bindE E1 ?_
    | refine Cm.bindE E2 ?_
    | refine Cm.bindE (eqGraph_ev n es (by omega)) (Cm.pos rfl ?_)
    | refine Cm.bindE (eqGraph_ev s0 l0 (by omega)) (Cm.pos rfl ?_)
    | refine Cm.bindE (eqGraph_ev s1 l1 (by omega)) (Cm.pos rfl ?_)
    | refine Cm.bindE M0 ?_
    | refine Cm.bindE M1 ?_
    | refine Cm.bindE E3 ?_
    | refine Cm.bindE E4 ?_
    | refine Cm.neg a_b ?_
    | refine Cm.neg (by omega) ?_
    | refine Cm.pos (by omega) ?_
    | refine Cm.pos rfl ?_
    | dsimp only

end Go.Proofs.Ytooeemiljeeoaaa.Pure
