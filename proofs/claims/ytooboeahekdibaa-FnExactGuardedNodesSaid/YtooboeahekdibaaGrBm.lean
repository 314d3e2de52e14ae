/- What is marked is held: the marks laid along a list of pairs are found there again; no conditions beyond those that each theorem names. -/
import Derived.Test.YtooboeahekdibaaGrA
import Derived.Test.YtooboeahekdibaaPxLawC
namespace Go.Proofs.Ytooboeahekdibaa.Gr
open Go.RowKit Go.Proofs.Ytooboeahekdibaa.P Go.Proofs.YtooboeahekdibaaW.PrintWords Go.Proofs.YtooboeahekdibaaW.PrintLast

theorem rd_get (l : List S59) (j : Nat) : rd_T59 l (j : Int) = l.getD j z59 := rfl

theorem mark_ev : ∀ (d : Nat) (x : List S59) (m i : Int), x.length ≤ 1048576 → 0 ≤ i → (x.length : Int) - i = d → 0 ≤ m → m + 2 * d ≤ 4294967296 →
    ∃ r : List S59, r.length = x.length ∧ (∀ j : Int, 0 ≤ j → j < i → rd_T59 r j = rd_T59 x j) ∧ (∀ j : Int, i ≤ j → j < x.length → rd_T59 r j = ⟨m + 2 * (j - i), m + 2 * (j - i) + 1⟩) ∧ Ev (fun k => laws_markIntA2S.l0 k x m i) (m + 2 * d, r) := by
  intro d
  induction d with
  | zero =>
    intro x m i hx hi hd hm hb
    refine ⟨x, rfl, fun _ _ _ => rfl, fun j h1 h2 => by omega, Ev.step (f := fun _ => some (m + 2 * (0 : Nat), x)) (fun k => ?_) (Ev.now _)⟩
    simp only [laws_markIntA2S.l0]
    rw [if_neg (by omega)]
    simp
  | succ d ih =>
    intro x m i hx hi hd hm hb
    have hw1 : wrap64 (m + 1) = m + 1 := by unfold wrap64; omega
    have hw2 : wrap64 (m + 1 + 1) = m + 1 + 1 := by unfold wrap64; omega
    have hwi : wrap64 (i + 1) = i + 1 := by unfold wrap64; omega
    obtain ⟨r, hl, he, hr, hv⟩ := ih (x.set i.toNat ⟨m, m + 1⟩) (m + 2) (i + 1) (by simpa using hx) (by omega) (by simp; omega) (by omega) (by omega)
    rw [List.length_set] at hl hr
    refine ⟨r, hl, ?_, ?_, ?_⟩
    · intro j h0 h1
      rw [he j h0 (by omega)]
      unfold rd_T59
      rw [List.getD_eq_getElem?_getD, List.getD_eq_getElem?_getD, List.getElem?_set_ne (by omega)]
    · intro j h1 h2
      by_cases hj : j = i
      · subst hj
        rw [he j hi (by omega)]
        unfold rd_T59
        rw [List.getD_eq_getElem?_getD, List.getElem?_set_self (by omega)]
        simp
      · rw [hr j (by omega) h2]
        congr 1 <;> omega
    · have e : m + 2 * ((d + 1 : Nat) : Int) = m + 2 + 2 * (d : Int) := by omega
      rw [e]
      refine Ev.step (fun k => ?_) hv
      simp only [laws_markIntA2S.l0, Option.bind_some]
      rw [if_pos (by omega), if_pos hi, hw1, hw2, hwi, List.set_set]
      have e1 : (rd_T59 (x.set i.toNat ⟨m, (rd_T59 x i).f1⟩) i).f0 = m := by
        unfold rd_T59
        rw [List.getD_eq_getElem?_getD, List.getElem?_set_self (by omega)]
        rfl
      rw [e1, show m + 1 + 1 = m + 2 by omega]

theorem mark_at (s : Int) (l : List S59) (m : Int) (hl : l.length ≤ 1048576) (h0 : 0 ≤ m) (h1 : m + 2 * (l.length : Int) ≤ 4294967296) : ∃ r : List S59, Ev (fun k => laws_markGraph.f k s l m) (m + 2 * (l.length : Int), r) := by
  obtain ⟨r, _, _, _, K, hK⟩ := mark_ev l.length l m 0 hl (by omega) (by omega) h0 h1
  dsimp only at hK
  refine ⟨r, K, fun k hk => ?_⟩
  dsimp only
  unfold laws_markGraph.f laws_markIntA2S.f
  rw [hK k hk]
  rfl

end Go.Proofs.Ytooboeahekdibaa.Gr
