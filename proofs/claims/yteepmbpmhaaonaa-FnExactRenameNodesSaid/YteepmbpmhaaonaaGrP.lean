/- The pairs u < v below n that a test picks, in order, and that the maker lays them; no conditions beyond those that each theorem names. -/
import Derived.Test.YteepmbpmhaaonaaGrA
import Derived.Test.YteepmbpmhaaonaaPxGrBy
namespace Go.Proofs.Yteepmbpmhaaonaa.Gr
open Go.RowKit Go.Proofs.Yteepmbpmhaaonaa.P Go.Proofs.YteepmbpmhaaonaaW.PrintWords Go.Proofs.YteepmbpmhaaonaaW.PrintLast

def rowF (h : Int → Int → Bool) (x : Int) : Nat → Int → List S65
  | 0, _ => []
  | d + 1, y => (if h x y = true then [⟨x, y⟩] else []) ++ rowF h x d (y + 1)
def allF (h : Int → Int → Bool) : Nat → Int → List S65
  | 0, _ => []
  | d + 1, x => rowF h x d (x + 1) ++ allF h d (x + 1)
/-- The pairs x < y below n for which h says yes, in order. -/
def pairs (h : Int → Int → Bool) (n : Int) : List S65 := allF h n.toNat 0

theorem rowF_len (h : Int → Int → Bool) (x : Int) : ∀ d y, (rowF h x d y).length ≤ d
  | 0, _ => Nat.le_refl _
  | d + 1, y => by
    have := rowF_len h x d (y + 1)
    unfold rowF
    rw [List.length_append]
    split <;> simp <;> omega
theorem allF_len (h : Int → Int → Bool) (N : Nat) : ∀ d x, d ≤ N → (allF h d x).length ≤ d * N
  | 0, _, _ => by simp [allF]
  | d + 1, x, hd => by
    have h1 := rowF_len h x d (x + 1)
    have h2 := allF_len h N d (x + 1) (by omega)
    unfold allF
    rw [List.length_append, Nat.succ_mul]
    omega
theorem pairs_len (h : Int → Int → Bool) (n : Int) (hn : n ≤ 1000) : (pairs h n).length ≤ 1000000 := by
  have h1 := allF_len h 1000 n.toNat 0 (by omega)
  unfold pairs
  omega

theorem rowF_congr (h h' : Int → Int → Bool) (x : Int) : ∀ (d : Nat) (y : Int), (∀ z : Int, y ≤ z → z < y + (d : Int) → h x z = h' x z) → rowF h x d y = rowF h' x d y
  | 0, _, _ => rfl
  | d + 1, y, e => by
    unfold rowF
    rw [e y (by omega) (by omega), rowF_congr h h' x d (y + 1) (fun z h1 h2 => e z (by omega) (by omega))]
theorem allF_congr (h h' : Int → Int → Bool) : ∀ (d : Nat) (x : Int), (∀ a b : Int, x ≤ a → a < b → b < x + (d : Int) → h a b = h' a b) → allF h d x = allF h' d x
  | 0, _, _ => rfl
  | d + 1, x, e => by
    unfold allF
    rw [rowF_congr h h' x d (x + 1) (fun z h1 h2 => e x z (by omega) (by omega) (by omega)), allF_congr h h' d (x + 1) (fun a b h1 h2 h3 => e a b (by omega) h2 (by omega))]
theorem pairs_congr (h h' : Int → Int → Bool) (n : Int) (e : ∀ a b : Int, 0 ≤ a → a < b → b < n → h a b = h' a b) : pairs h n = pairs h' n :=
  allF_congr h h' n.toNat 0 (fun a b h1 h2 h3 => e a b h1 h2 (by omega))

set_option maxRecDepth 10000 in
theorem by_row (h : Int → Int → Bool) (n x : Int) (rest : List S65) (hn : n ≤ 1000) (hx0 : 0 ≤ x) (hnx : ∀ es : List S65, (es.length : Int) ≤ (x + 1) * 1000 → Ev (fun k => impl_graphBy.l0 k h n (x + 1) es) (es ++ rest)) :
    ∀ (d : Nat) (y : Int) (es : List S65), x < y → n - y = d → (es.length : Int) ≤ x * 1000 + y → Ev (fun k => impl_graphBy.l1 k h n x y es) (es ++ (rowF h x d y ++ rest)) := by
  intro d
  induction d with
  | zero =>
    intro y es hxy hd hes
    have hw : wrap64 (x + 1) = x + 1 := by unfold wrap64; omega
    refine Ev.step (fun k => ?_) (hnx es (by omega))
    simp only [impl_graphBy.l1]
    rw [if_neg (by omega), hw]
  | succ d ih =>
    intro y es hxy hd hes
    have hw : wrap64 (y + 1) = y + 1 := by unfold wrap64; omega
    by_cases hc : h x y = true
    · have hr := ih (y + 1) (es ++ [⟨x, y⟩]) (by omega) (by omega) (by rw [List.length_append, List.length_singleton]; omega)
      have e : es ++ (rowF h x (d + 1) y ++ rest) = es ++ [⟨x, y⟩] ++ (rowF h x d (y + 1) ++ rest) := by
        conv => lhs; unfold rowF
        rw [if_pos hc]
        simp
      rw [e]
      refine Ev.step (fun k => ?_) hr
      simp only [impl_graphBy.l1]
      rw [if_pos (by omega), if_pos hc, if_pos (by omega), hw]
    · have hr := ih (y + 1) es (by omega) (by omega) (by omega)
      have e : es ++ (rowF h x (d + 1) y ++ rest) = es ++ (rowF h x d (y + 1) ++ rest) := by
        conv => lhs; unfold rowF
        rw [if_neg hc]
        simp
      rw [e]
      refine Ev.step (fun k => ?_) hr
      simp only [impl_graphBy.l1]
      rw [if_pos (by omega), if_neg hc, hw]

set_option maxRecDepth 10000 in
theorem by_all (h : Int → Int → Bool) (n : Int) (hn : n ≤ 1000) : ∀ (d : Nat) (x : Int) (es : List S65), 0 ≤ x → n - x = d → (es.length : Int) ≤ x * 1000 → Ev (fun k => impl_graphBy.l0 k h n x es) (es ++ allF h d x) := by
  intro d
  induction d with
  | zero =>
    intro x es hx hd hes
    rw [show allF h 0 x = [] from rfl, List.append_nil]
    refine Ev.step (f := fun _ => some es) (fun k => ?_) (Ev.now es)
    simp only [impl_graphBy.l0]
    rw [if_neg (by omega)]
  | succ d ih =>
    intro x es hx hd hes
    have hw : wrap64 (x + 1) = x + 1 := by unfold wrap64; omega
    have hr := by_row h n x (allF h d (x + 1)) hn hx (fun es' he => ih (x + 1) es' (by omega) (by omega) he) d (x + 1) es (by omega) (by omega) (by omega)
    rw [show allF h (d + 1) x = rowF h x d (x + 1) ++ allF h d (x + 1) from rfl]
    refine Ev.step (fun k => ?_) hr
    simp only [impl_graphBy.l0]
    rw [if_pos (by omega), hw]

theorem by_ev (h : Int → Int → Bool) (n : Int) (h0 : 0 ≤ n) (hn : n ≤ 1000) : Ev (fun k => impl_graphBy.f k h n) (pairs h n) := by
  obtain ⟨K, hK⟩ := by_all h n hn n.toNat 0 [] (by omega) (by omega) (by simp)
  dsimp only at hK
  exact ⟨K, fun k hk => by dsimp only; unfold impl_graphBy.f; rw [hK k hk]; rfl⟩

theorem okBy_all (c : Int → Int → Option Bool) (n : Int) (h : ∀ x y, 0 ≤ x → x < y → y < n → (c x y).isSome = true) : okBy c n = true := by
  unfold okBy
  rw [List.all_eq_true]
  intro y hy
  rw [List.all_eq_true]
  intro x hx
  have hy := List.mem_range.1 hy
  have hx := List.mem_range.1 hx
  exact h x y (by omega) (by omega) (by omega)

end Go.Proofs.Yteepmbpmhaaonaa.Gr
