/- Lists of whole numbers: one is equal to itself, and what is marked is held; no conditions beyond those that each theorem names. -/
import Derived.Test.YtooboeahekdibaaPxLawB
import Derived.Test.YtooboeahekdibaaPxLawC
namespace Go.Proofs.Ytooboeahekdibaa.Gr
open Go.RowKit Go.Proofs.Ytooboeahekdibaa.P Go.Proofs.YtooboeahekdibaaW.PrintWords Go.Proofs.YtooboeahekdibaaW.PrintLast

theorem eqI_loop (l : List Int) (hl : l.length ≤ 1048576) : ∀ (d : Nat) (i : Int), 0 ≤ i → (l.length : Int) - i = d → Ev (fun k => laws_eqIntS.l0 k l l i) true := by
  intro d
  induction d with
  | zero =>
    intro i hi hd
    refine Ev.step (f := fun _ => some true) (fun k => ?_) (Ev.now true)
    simp only [laws_eqIntS.l0]
    rw [if_neg (by omega)]
  | succ d ih =>
    intro i hi hd
    have hp : i < (l.length : Int) := by omega
    have hw : wrap64 (i + 1) = i + 1 := by unfold wrap64; omega
    refine Ev.step (fun k => ?_) (ih (i + 1) (by omega) (by omega))
    simp only [laws_eqIntS.l0, if_pos hp, if_pos hi, hw, if_true]

theorem eqI_ev (l : List Int) (hl : l.length ≤ 1048576) : Ev (fun k => laws_eqIntS.f k l l) true := by
  obtain ⟨K, hK⟩ := eqI_loop l hl l.length 0 (by omega) (by omega)
  dsimp only at hK
  refine ⟨K, fun k hk => ?_⟩
  dsimp only
  unfold laws_eqIntS.f
  rw [if_pos rfl, hK k hk]

theorem markI_loop : ∀ (d : Nat) (x : List Int) (m i : Int), x.length ≤ 1048576 → 0 ≤ i → (x.length : Int) - i = d → 0 ≤ m → m + d ≤ 4294967296 →
    ∃ r : List Int, r.length = x.length ∧ (∀ j : Int, 0 ≤ j → j < i → rd r j = rd x j) ∧ (∀ j : Int, i ≤ j → j < x.length → rd r j = m + (j - i)) ∧ Ev (fun k => laws_markIntS.l0 k x m i) (m + d, r) := by
  intro d
  induction d with
  | zero =>
    intro x m i hx hi hd hm hb
    refine ⟨x, rfl, fun _ _ _ => rfl, fun j h1 h2 => by omega, Ev.step (f := fun _ => some (m + (0 : Nat), x)) (fun k => ?_) (Ev.now _)⟩
    simp only [laws_markIntS.l0]
    rw [if_neg (by omega)]
    simp
  | succ d ih =>
    intro x m i hx hi hd hm hb
    have hw1 : wrap64 (m + 1) = m + 1 := by unfold wrap64; omega
    have hwi : wrap64 (i + 1) = i + 1 := by unfold wrap64; omega
    obtain ⟨r, hl, he, hr, hv⟩ := ih (x.set i.toNat m) (m + 1) (i + 1) (by simpa using hx) (by omega) (by simp; omega) (by omega) (by omega)
    rw [List.length_set] at hl hr
    refine ⟨r, hl, ?_, ?_, ?_⟩
    · intro j h0 h1
      rw [he j h0 (by omega)]
      unfold rd
      rw [List.getD_eq_getElem?_getD, List.getD_eq_getElem?_getD, List.getElem?_set_ne (by omega)]
    · intro j h1 h2
      by_cases hj : j = i
      · subst hj
        rw [he j hi (by omega)]
        unfold rd
        rw [List.getD_eq_getElem?_getD, List.getElem?_set_self (by omega)]
        simp
      · rw [hr j (by omega) h2]
        omega
    · have e : m + ((d + 1 : Nat) : Int) = m + 1 + (d : Int) := by omega
      rw [e]
      refine Ev.step (fun k => ?_) hv
      simp only [laws_markIntS.l0]
      rw [if_pos (by omega), if_pos hi, hw1, hwi]

end Go.Proofs.Ytooboeahekdibaa.Gr
