/- Lists of texts: one is equal to itself, and what is marked is held; no conditions beyond those that each theorem names. -/
import Derived.Test.YtnddlcbhabcejaaDoorGrNm
import Derived.Test.YtnddlcbhabcejaaDoorPxLawB
import Derived.Test.YtnddlcbhabcejaaDoorPxLawC
namespace Go.Proofs.YtnddlcbhabcejaaDoor.Gr
open Go.RowKit Go.Proofs.YtnddlcbhabcejaaDoor.P Go.Proofs.YtnddlcbhabcejaaDoorW.PrintWords Go.Proofs.YtnddlcbhabcejaaDoorW.PrintLast Go.Proofs.YtnddlcbhabcejaaDoorW.PrintMore

theorem eqSt_ev (l : List ByteArray) (hl : l.length ≤ 1048577) : Ev (fun k => laws_eqStringS.f k l l) true := by
  refine Cm.ev ?_
  unfold laws_eqStringS.f
  refine Cm.pos rfl (Cm.up (fun k i (_ : Unit) => laws_eqStringS.l0 k l l i) l.length (fun i _ => 0 ≤ i) _ ?_ 0 () (by omega) (by omega))
  rintro i _ hi i0 ih
  by_cases h : i < (l.length : Int)
  · refine Cm.step (fun k => by simp only [laws_eqStringS.l0, if_pos h, if_pos i0, if_true]; try rfl) ?_
    rw [w64 (i + 1) (by omega) (by omega)]
    exact ih () h (by omega)
  · exact Cm.step (fun k => by simp only [laws_eqStringS.l0, if_neg h]; try rfl) (Cm.now rfl)

theorem mtext_loop : ∀ (n : Nat) (x : ByteArray), x.size + n ≤ 1099511627776 → Cm (fun k => laws_markText.l0 k (n : Int) x) (fun _ => True) := by
  intro n
  induction n using Nat.strongRecOn with
  | _ n ih =>
    intro x hx
    refine Cm.step (fun k => by simp only [laws_markText.l0]; try rfl) ?_
    refine Cm.ite (fun h => ?_) (fun h => Cm.pos (by omega) (Cm.now trivial))
    refine Cm.bindE (Ev.now _) ?_
    have h1 : ∀ z : Int, (strOfNums [z]).size = 1 := fun z => rfl
    refine Cm.pos (by rw [h1]; omega) ?_
    rw [show Int.tdiv (n : Int) 10 = ((n / 10 : Nat) : Int) from rfl, w64 _ (by omega) (by omega)]
    refine ih (n / 10) (by omega) _ ?_
    rw [ba_size, ba_append, List.length_append, ← ba_size, ← ba_size, h1]
    omega
theorem mtext_ev (m : Int) (h0 : 1 ≤ m) (h1 : m ≤ 4294967296) : ∃ r, Ev (fun k => laws_markText.f k m) r := by
  obtain ⟨r, hr, _⟩ := mtext_loop m.toNat ⟨#[]⟩ (by have : (⟨#[]⟩ : ByteArray).size = 0 := rfl; omega)
  refine ⟨r, ?_⟩
  unfold laws_markText.f
  rw [show ((m.toNat : Nat) : Int) = m by omega] at hr
  exact Cm.ev (Cm.neg (by omega) (Ev.cm hr))

theorem takeSet {α : Type} (R l : List α) (i : Nat) (x : α) (hl : R.length = l.length) (hx : R[i]? = some x) : (R.take i ++ l.drop i).set i x = R.take (i + 1) ++ l.drop (i + 1) := by
  obtain ⟨hi, e⟩ := List.getElem?_eq_some_iff.1 hx
  rw [List.set_append_right _ _ (by rw [List.length_take]; omega), List.length_take, show i - min i R.length = 0 by omega, List.take_add_one, hx, List.drop_eq_getElem_cons (by omega : i < l.length)]
  simp only [List.set_cons_zero, Option.toList_some, List.append_assoc, List.singleton_append]

theorem mark_heldSt (l : List ByteArray) (hl : l.length ≤ 1048577) : ∃ r : List ByteArray, Ev (fun k => laws_markStringS.f k l 1) (1 + (l.length : Int), r) ∧ Ev (fun k => laws_heldStringS.f k r 1) (1 + (l.length : Int)) := by
  have H : ∀ j : Nat, ∃ r : ByteArray, j < l.length → Ev (fun k => laws_markText.f k (1 + (j : Int))) r := fun j => by
    by_cases h : j < l.length
    · obtain ⟨r, hr⟩ := mtext_ev (1 + (j : Int)) (by omega) (by omega)
      exact ⟨r, fun _ => hr⟩
    · exact ⟨⟨#[]⟩, fun h' => (h h').elim⟩
  obtain ⟨mt, hmt⟩ := Classical.axiomOfChoice H
  obtain ⟨R, hR⟩ : ∃ R, R = (List.range l.length).map mt := ⟨_, rfl⟩
  have hlen : R.length = l.length := by rw [hR]; simp
  have hat : ∀ j : Nat, j < l.length → R[j]? = some (mt j) := fun j hj => by
    rw [hR, List.getElem?_map, List.getElem?_range hj]
    rfl
  refine ⟨R, Cm.ev ?_, Cm.ev ?_⟩
  · unfold laws_markStringS.f
    refine Cm.up (fun k i (z : List ByteArray × Int) => laws_markStringS.l0 k z.1 z.2 i) l.length (fun i z => 0 ≤ i ∧ z.2 = 1 + i ∧ z.1 = R.take i.toNat ++ l.drop i.toNat) _ ?_ 0 (l, 1) (by omega) ⟨by omega, rfl, by simp⟩
    rintro i ⟨x, m⟩ hi ⟨i0, hm, hx⟩ ih
    dsimp only at hm hx ⊢
    have hxl : x.length = l.length := by rw [hx, List.length_append, List.length_take, List.length_drop]; omega
    by_cases h : i < (x.length : Int)
    · refine Cm.step (fun k => by simp only [laws_markStringS.l0, if_pos h]; try rfl) ?_
      have e1 := hmt i.toNat (by omega)
      rw [show ((i.toNat : Nat) : Int) = i by omega, ← hm] at e1
      refine Cm.bindE e1 (Cm.pos i0 ?_)
      rw [w64 (m + 1) (by omega) (by omega), w64 (i + 1) (by omega) (by omega)]
      refine ih (x.set i.toNat (mt i.toNat), m + 1) (by omega) ⟨by omega, by dsimp only; omega, ?_⟩
      dsimp only
      rw [hx, takeSet R l i.toNat _ hlen (hat _ (by omega)), show (i + 1).toNat = i.toNat + 1 by omega]
    · refine Cm.step (fun k => by simp only [laws_markStringS.l0, if_neg h]; try rfl) (Cm.now ?_)
      rw [hx, hm, List.take_of_length_le (by omega), List.drop_eq_nil_of_le (by omega), List.append_nil, show i = (l.length : Int) by omega]
  · unfold laws_heldStringS.f
    refine Cm.up (fun k i (m : Int) => laws_heldStringS.l0 k R m i) l.length (fun i m => 0 ≤ i ∧ m = 1 + i) _ ?_ 0 1 (by omega) ⟨by omega, rfl⟩
    rintro i m hi ⟨i0, hm⟩ ih
    by_cases h : i < (R.length : Int)
    · refine Cm.step (fun k => by simp only [laws_heldStringS.l0, if_pos h, if_pos i0]; try rfl) ?_
      have e1 := hmt i.toNat (by omega)
      rw [show ((i.toNat : Nat) : Int) = i by omega, ← hm] at e1
      refine Cm.bindE e1 (Cm.pos ?_ ?_)
      · unfold rdOf
        rw [List.getD_eq_getElem?_getD, hat i.toNat (by omega)]
        rfl
      · rw [w64 (m + 1) (by omega) (by omega), w64 (i + 1) (by omega) (by omega)]
        exact ih (m + 1) (by omega) ⟨by omega, by omega⟩
    · refine Cm.step (fun k => by simp only [laws_heldStringS.l0, if_neg h]; try rfl) (Cm.now ?_)
      omega

end Go.Proofs.YtnddlcbhabcejaaDoor.Gr
