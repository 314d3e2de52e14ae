/- What is marked is held: the marks laid along a list of pairs are found there again; no conditions beyond those that each theorem names. -/
import Derived.Test.YtnddlcbhabcejaaDoorGrBm
import Derived.Test.YtnddlcbhabcejaaDoorPxLawC
namespace Go.Proofs.YtnddlcbhabcejaaDoor.Gr
open Go.RowKit Go.Proofs.YtnddlcbhabcejaaDoor.P Go.Proofs.YtnddlcbhabcejaaDoorW.PrintWords Go.Proofs.YtnddlcbhabcejaaDoorW.PrintLast

theorem held_ev : ∀ (d : Nat) (x : List S85) (m i : Int), x.length ≤ 1048576 → 0 ≤ i → (x.length : Int) - i = d → 0 ≤ m → m + 2 * d ≤ 4294967296 →
    (∀ j : Int, i ≤ j → j < x.length → rd_T85 x j = ⟨m + 2 * (j - i), m + 2 * (j - i) + 1⟩) → Ev (fun k => laws_heldIntA2S.l0 k x m i) (m + 2 * d) := by
  intro d
  induction d with
  | zero =>
    intro x m i hx hi hd hm hb hr
    refine Ev.step (f := fun _ => some (m + 2 * (0 : Nat))) (fun k => ?_) (Ev.now _)
    simp only [laws_heldIntA2S.l0]
    rw [if_neg (by omega)]
    simp
  | succ d ih =>
    intro x m i hx hi hd hm hb hr
    have hw1 : wrap64 (m + 1) = m + 1 := by unfold wrap64; omega
    have hw2 : wrap64 (m + 1 + 1) = m + 1 + 1 := by unfold wrap64; omega
    have hwi : wrap64 (i + 1) = i + 1 := by unfold wrap64; omega
    have h0 := hr i (by omega) (by omega)
    have hn := ih x (m + 2) (i + 1) hx (by omega) (by omega) (by omega) (by omega) (fun j h1 h2 => by
      rw [hr j (by omega) h2]
      congr 1 <;> omega)
    have e : m + 2 * ((d + 1 : Nat) : Int) = m + 2 + 2 * (d : Int) := by omega
    rw [e]
    refine Ev.step (fun k => ?_) hn
    simp only [laws_heldIntA2S.l0]
    rw [h0, if_pos (by omega), if_pos hi, hw1, hw2, hwi]
    simp only [Int.sub_self, Int.mul_zero, Int.add_zero, if_true]
    rw [show m + 1 + 1 = m + 2 by omega]

end Go.Proofs.YtnddlcbhabcejaaDoor.Gr
