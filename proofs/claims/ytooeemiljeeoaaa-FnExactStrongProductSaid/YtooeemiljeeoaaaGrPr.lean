/- Products of two graphs: which pairs both lay; no conditions beyond those that each theorem names. -/
import Derived.Test.YtooeemiljeeoaaaGrP
import Derived.Test.YtooeemiljeeoaaaGrM
import Derived.Test.YtooeemiljeeoaaaGrX
import Derived.Test.YtooeemiljeeoaaaGrC
import Derived.Test.YtooeemiljeeoaaaGrG
import Derived.Test.YtooeemiljeeoaaaGrN
import Derived.Test.YtooeemiljeeoaaaPxNetA
import Derived.Test.YtooeemiljeeoaaaPxSpecL2Product
namespace Go.Proofs.Ytooeemiljeeoaaa.Gr
open Go.RowKit Go.Proofs.Ytooeemiljeeoaaa.P Go.Proofs.YtooeemiljeeoaaaW.PrintWords Go.Proofs.YtooeemiljeeoaaaW.PrintLast Go.Proofs.YtooeemiljeeoaaaW.PrintMore

/-- Whether a product has an edge between two pairs of nodes. -/
def prodH (b : Bool) (l m : List S57) (n x y : Int) : Bool :=
  (decide (Int.tdiv x n = Int.tdiv y n) && near m (Int.tmod x n) (Int.tmod y n)) || (near l (Int.tdiv x n) (Int.tdiv y n) && decide (Int.tmod x n = Int.tmod y n)) || (b && near l (Int.tdiv x n) (Int.tdiv y n) && near m (Int.tmod x n) (Int.tmod y n))

theorem prod_if {α : Type} (a c d e : Int) (t1 t2 b : Bool) (A B : α) :
    (if a = c then (if t2 = true then A else (if t1 = true then (if d = e then A else (if b = true then B else B)) else (if b = true then B else B))) else (if t1 = true then (if d = e then A else (if b = true then (if t2 = true then A else B) else B)) else (if b = true then B else B)))
      = if ((decide (a = c) && t2) || (t1 && decide (d = e)) || (b && t1 && t2)) = true then A else B := by
  by_cases h1 : a = c <;> by_cases h2 : d = e <;> cases t1 <;> cases t2 <;> cases b <;> simp [h1, h2]

theorem div_facts {s n x : Int} (hn : 0 < n) (hx : 0 ≤ x) (hxs : x < s * n) : 0 ≤ Int.tdiv x n ∧ Int.tdiv x n < s ∧ 0 ≤ Int.tmod x n ∧ Int.tmod x n < n ∧ x = n * Int.tdiv x n + Int.tmod x n := by
  rw [Int.tdiv_eq_ediv_of_nonneg hx, Int.tmod_eq_emod_of_nonneg hx]
  exact ⟨Int.ediv_nonneg hx (by omega), Int.ediv_lt_of_lt_mul hn hxs, Int.emod_nonneg _ (by omega), Int.emod_lt_of_pos _ hn, (Int.mul_ediv_add_emod x n).symm⟩

theorem size_facts {s t : Int} (h0 : 0 ≤ s) (h8 : s ≤ 8) (k0 : 0 ≤ t) (k8 : t ≤ 8) : 0 ≤ s * t ∧ s * t ≤ 64 ∧ wrap64 (s * t) = s * t := by
  have h1 : 0 ≤ s * t := Int.mul_nonneg h0 k0
  have h2 : s * t ≤ 8 * 8 := Int.mul_le_mul h8 k8 k0 (by decide)
  exact ⟨h1, by omega, w64 _ (by omega) (by omega)⟩

set_option maxRecDepth 10000 in
theorem prod_row (b : Bool) (s t : Int) (l m : List S57) (hl : l.length ≤ 1048576) (hm : m.length ≤ 1048576) (hg : Good s l) (hg2 : Good t m) (n : Int) (hn : n = s * t) (hn8 : n ≤ 1000) (x : Int) (rest : List S57) (hx0 : 0 ≤ x)
    (hnx : ∀ es : List S57, (es.length : Int) ≤ (x + 1) * 1000 → Cm (fun k => spec_l2Product.l0 k b (x + 1) s l t m n es) (fun z => z = (n, es ++ rest, true))) :
    ∀ (d : Nat) (y : Int) (es : List S57), x < y → n - y = d → (es.length : Int) ≤ x * 1000 + y → Cm (fun k => spec_l2Product.l1 k b x y s l t m n es) (fun z => z = (n, es ++ (rowF (prodH b l m t) x d y ++ rest), true)) := by
  intro d
  induction d with
  | zero =>
    intro y es hxy hd hes
    refine Cm.step (fun k => by simp (disch := omega) only [spec_l2Product.l1, if_neg (show ¬ y < n by omega), w64 (x + 1)]; try rfl) (hnx es (by omega))
  | succ d ih =>
    intro y es hxy hd hes
    have h := hg.1
    have h' := hg.2.1
    have k := hg2.1
    have k' := hg2.2.1
    have ht : 0 < t := by
      rcases Int.lt_or_eq_of_le k with c | c
      · exact c
      · rw [← c, Int.mul_zero] at hn
        omega
    obtain ⟨a0, a1, _⟩ := div_facts (s := s) ht hx0 (by omega)
    obtain ⟨b0, b1, _⟩ := div_facts (s := s) ht (show 0 ≤ y by omega) (by omega)
    have e1 := near_ev s l (wrap64 (Int.tdiv x t)) (wrap64 (Int.tdiv y t)) hl
    have e2 := near_ev t m (Int.tmod x t) (Int.tmod y t) hm
    rw [w64 (Int.tdiv x t) (by omega) (by omega), w64 (Int.tdiv y t) (by omega) (by omega)] at e1
    refine Cm.step (f := fun k => (spec_l2Near.f k s l (Int.tdiv x t) (Int.tdiv y t)).bind fun t1 => (spec_l2Near.f k t m (Int.tmod x t) (Int.tmod y t)).bind fun t2 =>
      if ((decide (Int.tdiv x t = Int.tdiv y t) && t2) || (t1 && decide (Int.tmod x t = Int.tmod y t)) || (b && t1 && t2)) = true then spec_l2Product.l1 k b x (y + 1) s l t m n (es ++ [⟨x, y⟩]) else spec_l2Product.l1 k b x (y + 1) s l t m n es) (fun k => ?_) ?_
    · simp only [spec_l2Product.l1, if_pos (show y < n by omega), if_neg (show ¬ t = 0 by omega), w64 (Int.tdiv x t) (by omega) (by omega), w64 (Int.tdiv y t) (by omega) (by omega), w64 (y + 1) (by omega) (by omega), if_pos (show es.length < 8796093022208 by omega)]
      congr 1
      funext t1
      congr 1
      funext t2
      exact prod_if _ _ _ _ t1 t2 b _ _
    · refine Cm.bindE e1 (Cm.bindE e2 ?_)
      refine Cm.ite (fun e => ?_) (fun e => ?_)
      · have hr := ih (y + 1) (es ++ [⟨x, y⟩]) (by omega) (by omega) (by rw [List.length_append, List.length_singleton]; omega)
        rw [show es ++ (rowF (prodH b l m t) x (d + 1) y ++ rest) = es ++ [⟨x, y⟩] ++ (rowF (prodH b l m t) x d (y + 1) ++ rest) by
          conv => lhs; unfold rowF
          rw [if_pos (show prodH b l m t x y = true from e)]
          simp]
        exact hr
      · have hr := ih (y + 1) es (by omega) (by omega) (by omega)
        rw [show es ++ (rowF (prodH b l m t) x (d + 1) y ++ rest) = es ++ (rowF (prodH b l m t) x d (y + 1) ++ rest) by
          conv => lhs; unfold rowF
          rw [if_neg (show ¬ prodH b l m t x y = true from e)]
          simp]
        exact hr

set_option maxRecDepth 10000 in
theorem prod_all (b : Bool) (s t : Int) (l m : List S57) (hl : l.length ≤ 1048576) (hm : m.length ≤ 1048576) (hg : Good s l) (hg2 : Good t m) (n : Int) (hn : n = s * t) (hn8 : n ≤ 1000) : ∀ (d : Nat) (x : Int) (es : List S57), 0 ≤ x → n - x = d → (es.length : Int) ≤ x * 1000 → Cm (fun k => spec_l2Product.l0 k b x s l t m n es) (fun z => z = (n, es ++ allF (prodH b l m t) d x, true)) := by
  intro d
  induction d with
  | zero =>
    intro x es hx hd hes
    rw [show allF (prodH b l m t) 0 x = [] from rfl, List.append_nil]
    exact Cm.step (fun k => by simp only [spec_l2Product.l0, if_neg (show ¬ x < n by omega)]; try rfl) (Cm.now rfl)
  | succ d ih =>
    intro x es hx hd hes
    have hr := prod_row b s t l m hl hm hg hg2 n hn hn8 x (allF (prodH b l m t) d (x + 1)) hx (fun es' he => ih (x + 1) es' (by omega) (by omega) he) d (x + 1) es (by omega) (by omega) (by omega)
    rw [show allF (prodH b l m t) (d + 1) x = rowF (prodH b l m t) x d (x + 1) ++ allF (prodH b l m t) d (x + 1) from rfl]
    exact Cm.step (fun k => by simp (disch := omega) only [spec_l2Product.l0, if_pos (show x < n by omega), w64 (x + 1)]; try rfl) hr

theorem has_near {s : Int} {l : List S57} {m : List Int} (hg : Good s l) (hm : Masks s m) (hb : ∀ u v : Int, 0 ≤ u → u < s → 0 ≤ v → v < 8 → bit (rd m u) v = near l u v) (u v : Int) (u0 : 0 ≤ u) (u1 : u < s) (v0 : 0 ≤ v) (v1 : v < s) : impl_net_has.f m u v = some (near l u v) := by
  rw [has_eq s m u v hm u0 u1 v0, hb u v u0 u1 v0 (by have := hg.2.1; omega)]

end Go.Proofs.Ytooeemiljeeoaaa.Gr
