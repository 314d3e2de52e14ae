/- The maker lays the pairs that a test picks; no conditions beyond those that each theorem names. -/
import Derived.Test.YtooeemiljeeoaaaGrA
import Derived.Test.YtooeemiljeeoaaaGrP0
import Derived.Test.YtooeemiljeeoaaaPxGrBy
namespace Go.Proofs.Ytooeemiljeeoaaa.Gr
open Go.RowKit Go.Proofs.Ytooeemiljeeoaaa.P Go.Proofs.YtooeemiljeeoaaaW.PrintWords Go.Proofs.YtooeemiljeeoaaaW.PrintLast

set_option maxRecDepth 10000 in
theorem by_row (h : Int → Int → Bool) (n x : Int) (rest : List S57) (hn : n ≤ 1000) (hx0 : 0 ≤ x) (hnx : ∀ es : List S57, (es.length : Int) ≤ (x + 1) * 1000 → Ev (fun k => impl_graphBy.l0 k h n (x + 1) es) (es ++ rest)) :
    ∀ (d : Nat) (y : Int) (es : List S57), x < y → n - y = d → (es.length : Int) ≤ x * 1000 + y → Ev (fun k => impl_graphBy.l1 k h n x y es) (es ++ (rowF h x d y ++ rest)) := by
  intro d
  induction d with
  | zero =>
    intro y es hxy hd hes
    have hw : wrap64 (x + 1) = x + 1 := by unfold wrap64; omega
    refine Ev.step (fun k => ?_) (hnx es (by omega))
    simp only [impl_graphBy.l1]
    rw [if_neg (by omega), hw]
  | succ d ih =>
    intro y es hxy hd hes
    have hw : wrap64 (y + 1) = y + 1 := by unfold wrap64; omega
    by_cases hc : h x y = true
    · have hr := ih (y + 1) (es ++ [⟨x, y⟩]) (by omega) (by omega) (by rw [List.length_append, List.length_singleton]; omega)
      have e : es ++ (rowF h x (d + 1) y ++ rest) = es ++ [⟨x, y⟩] ++ (rowF h x d (y + 1) ++ rest) := by
        conv => lhs; unfold rowF
        rw [if_pos hc]
        simp
      rw [e]
      refine Ev.step (fun k => ?_) hr
      simp only [impl_graphBy.l1]
      rw [if_pos (by omega), if_pos hc, if_pos (by omega), hw]
    · have hr := ih (y + 1) es (by omega) (by omega) (by omega)
      have e : es ++ (rowF h x (d + 1) y ++ rest) = es ++ (rowF h x d (y + 1) ++ rest) := by
        conv => lhs; unfold rowF
        rw [if_neg hc]
        simp
      rw [e]
      refine Ev.step (fun k => ?_) hr
      simp only [impl_graphBy.l1]
      rw [if_pos (by omega), if_neg hc, hw]

set_option maxRecDepth 10000 in
theorem by_all (h : Int → Int → Bool) (n : Int) (hn : n ≤ 1000) : ∀ (d : Nat) (x : Int) (es : List S57), 0 ≤ x → n - x = d → (es.length : Int) ≤ x * 1000 → Ev (fun k => impl_graphBy.l0 k h n x es) (es ++ allF h d x) := by
  intro d
  induction d with
  | zero =>
    intro x es hx hd hes
    rw [show allF h 0 x = [] from rfl, List.append_nil]
    refine Ev.step (f := fun _ => some es) (fun k => ?_) (Ev.now es)
    simp only [impl_graphBy.l0]
    rw [if_neg (by omega)]
  | succ d ih =>
    intro x es hx hd hes
    have hw : wrap64 (x + 1) = x + 1 := by unfold wrap64; omega
    have hr := by_row h n x (allF h d (x + 1)) hn hx (fun es' he => ih (x + 1) es' (by omega) (by omega) he) d (x + 1) es (by omega) (by omega) (by omega)
    rw [show allF h (d + 1) x = rowF h x d (x + 1) ++ allF h d (x + 1) from rfl]
    refine Ev.step (fun k => ?_) hr
    simp only [impl_graphBy.l0]
    rw [if_pos (by omega), hw]

theorem by_ev (h : Int → Int → Bool) (n : Int) (h0 : 0 ≤ n) (hn : n ≤ 1000) : Ev (fun k => impl_graphBy.f k h n) (pairs h n) := by
  obtain ⟨K, hK⟩ := by_all h n hn n.toNat 0 [] (by omega) (by omega) (by simp)
  dsimp only at hK
  exact ⟨K, fun k hk => by dsimp only; unfold impl_graphBy.f; rw [hK k hk]; rfl⟩

theorem okBy_all (c : Int → Int → Option Bool) (n : Int) (h : ∀ x y, 0 ≤ x → x < y → y < n → (c x y).isSome = true) : okBy c n = true := by
  unfold okBy
  rw [List.all_eq_true]
  intro y hy
  rw [List.all_eq_true]
  intro x hx
  have hy := List.mem_range.1 hy
  have hx := List.mem_range.1 hx
  exact h x y (by omega) (by omega) (by omega)

end Go.Proofs.Ytooeemiljeeoaaa.Gr
