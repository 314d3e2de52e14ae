/- What is marked along a list of whole numbers is held; no conditions beyond those that each theorem names. -/
import Derived.Test.YtooboeahekdibaaGrI
import Derived.Test.YtooboeahekdibaaPxLawC
namespace Go.Proofs.Ytooboeahekdibaa.Gr
open Go.RowKit Go.Proofs.Ytooboeahekdibaa.P Go.Proofs.YtooboeahekdibaaW.PrintWords Go.Proofs.YtooboeahekdibaaW.PrintLast

theorem heldI_loop : ∀ (d : Nat) (x : List Int) (m i : Int), x.length ≤ 1048576 → 0 ≤ i → (x.length : Int) - i = d → 0 ≤ m → m + d ≤ 4294967296 →
    (∀ j : Int, i ≤ j → j < x.length → rd x j = m + (j - i)) → Ev (fun k => laws_heldIntS.l0 k x m i) (m + d) := by
  intro d
  induction d with
  | zero =>
    intro x m i hx hi hd hm hb hr
    refine Ev.step (f := fun _ => some (m + (0 : Nat))) (fun k => ?_) (Ev.now _)
    simp only [laws_heldIntS.l0]
    rw [if_neg (by omega)]
    simp
  | succ d ih =>
    intro x m i hx hi hd hm hb hr
    have hw1 : wrap64 (m + 1) = m + 1 := by unfold wrap64; omega
    have hwi : wrap64 (i + 1) = i + 1 := by unfold wrap64; omega
    have h0 := hr i (by omega) (by omega)
    have hn := ih x (m + 1) (i + 1) hx (by omega) (by omega) (by omega) (by omega) (fun j h1 h2 => by
      rw [hr j (by omega) h2]
      omega)
    have e : m + ((d + 1 : Nat) : Int) = m + 1 + (d : Int) := by omega
    rw [e]
    refine Ev.step (fun k => ?_) hn
    simp only [laws_heldIntS.l0]
    rw [h0, if_pos (by omega), if_pos hi, if_pos (by omega), hw1, hwi]

theorem mark_heldI (l : List Int) (hl : l.length ≤ 1048576) : ∃ r : List Int, Ev (fun k => laws_markIntS.f k l 1) (1 + (l.length : Int), r) ∧ Ev (fun k => laws_heldIntS.f k r 1) (1 + (l.length : Int)) := by
  obtain ⟨r, h1, _, h3, K, hK⟩ := markI_loop l.length l 1 0 hl (by omega) (by omega) (by omega) (by omega)
  obtain ⟨K2, hK2⟩ := heldI_loop l.length r 1 0 (by omega) (by omega) (by omega) (by omega) (by omega) (fun j a b => h3 j a (by omega))
  exact ⟨r, ⟨K, hK⟩, ⟨K2, hK2⟩⟩

end Go.Proofs.Ytooboeahekdibaa.Gr
