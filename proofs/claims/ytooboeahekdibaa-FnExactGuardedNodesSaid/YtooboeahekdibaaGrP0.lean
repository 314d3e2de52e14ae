/- The pairs u < v below n that a test picks, in order; no conditions beyond those that each theorem names. -/
import Derived.Test.YtooboeahekdibaaPx0
namespace Go.Proofs.Ytooboeahekdibaa.Gr
open Go.RowKit Go.Proofs.Ytooboeahekdibaa.P Go.Proofs.YtooboeahekdibaaW.PrintWords Go.Proofs.YtooboeahekdibaaW.PrintLast

def rowF (h : Int → Int → Bool) (x : Int) : Nat → Int → List S59
  | 0, _ => []
  | d + 1, y => (if h x y = true then [⟨x, y⟩] else []) ++ rowF h x d (y + 1)
def allF (h : Int → Int → Bool) : Nat → Int → List S59
  | 0, _ => []
  | d + 1, x => rowF h x d (x + 1) ++ allF h d (x + 1)
/-- The pairs x < y below n for which h says yes, in order. -/
def pairs (h : Int → Int → Bool) (n : Int) : List S59 := allF h n.toNat 0

theorem rowF_len (h : Int → Int → Bool) (x : Int) : ∀ d y, (rowF h x d y).length ≤ d
  | 0, _ => Nat.le_refl _
  | d + 1, y => by
    have := rowF_len h x d (y + 1)
    unfold rowF
    rw [List.length_append]
    split <;> simp <;> omega
theorem allF_len (h : Int → Int → Bool) (N : Nat) : ∀ d x, d ≤ N → (allF h d x).length ≤ d * N
  | 0, _, _ => by simp [allF]
  | d + 1, x, hd => by
    have h1 := rowF_len h x d (x + 1)
    have h2 := allF_len h N d (x + 1) (by omega)
    unfold allF
    rw [List.length_append, Nat.succ_mul]
    omega
theorem pairs_len (h : Int → Int → Bool) (n : Int) (hn : n ≤ 1000) : (pairs h n).length ≤ 1000000 := by
  have h1 := allF_len h 1000 n.toNat 0 (by omega)
  unfold pairs
  omega

theorem rowF_congr (h h' : Int → Int → Bool) (x : Int) : ∀ (d : Nat) (y : Int), (∀ z : Int, y ≤ z → z < y + (d : Int) → h x z = h' x z) → rowF h x d y = rowF h' x d y
  | 0, _, _ => rfl
  | d + 1, y, e => by
    unfold rowF
    rw [e y (by omega) (by omega), rowF_congr h h' x d (y + 1) (fun z h1 h2 => e z (by omega) (by omega))]
theorem allF_congr (h h' : Int → Int → Bool) : ∀ (d : Nat) (x : Int), (∀ a b : Int, x ≤ a → a < b → b < x + (d : Int) → h a b = h' a b) → allF h d x = allF h' d x
  | 0, _, _ => rfl
  | d + 1, x, e => by
    unfold allF
    rw [rowF_congr h h' x d (x + 1) (fun z h1 h2 => e x z (by omega) (by omega) (by omega)), allF_congr h h' d (x + 1) (fun a b h1 h2 h3 => e a b (by omega) h2 (by omega))]
theorem pairs_congr (h h' : Int → Int → Bool) (n : Int) (e : ∀ a b : Int, 0 ≤ a → a < b → b < n → h a b = h' a b) : pairs h n = pairs h' n :=
  allF_congr h h' n.toNat 0 (fun a b h1 h2 h3 => e a b h1 h2 (by omega))

end Go.Proofs.Ytooboeahekdibaa.Gr
