/- When all nodes are reached from one of them, and in how many steps; no conditions beyond those that each theorem names. -/
import Derived.Test.YteepmbpmhaaonaaGrPa
import Derived.Test.YteepmbpmhaaonaaGrDi
namespace Go.Proofs.Yteepmbpmhaaonaa.Gr
open Go.RowKit Go.Proofs.Yteepmbpmhaaonaa.P Go.Proofs.YteepmbpmhaaonaaW.PrintWords Go.Proofs.YteepmbpmhaaonaaW.PrintLast Go.Proofs.YteepmbpmhaaonaaW.PrintMore

theorem con_trans {l : List S65} {P : Int → Bool} {x y z : Int} (h : Con l P x y) (k : Con l P y z) : Con l P x z :=
  con_min (fun v => Con l P x v) h (fun _ _ hu hp hn => hu.step _ _ hp hn) z k
theorem con_symm {l : List S65} {x y : Int} (h : Con l (fun _ => true) x y) : Con l (fun _ => true) y x :=
  con_min (fun v => Con l (fun _ => true) v x) Con.base (fun u v hu _ hn => con_trans (Con.base.step v u rfl ((near_symm l v u).trans hn)) hu) y h
theorem con_rch {l : List S65} {x y : Int} : Con l (fun _ => true) x y ↔ ∃ n, Rch l x n y := by
  constructor
  · intro h
    exact con_min (fun v => ∃ n, Rch l x n v) ⟨0, rfl⟩ (fun u v ⟨n, hu⟩ _ hn => ⟨n + 1, .inr ⟨u, hu, hn⟩⟩) y h
  · rintro ⟨n, h⟩
    induction n generalizing y with
    | zero => rw [show y = x from h]; exact Con.base
    | succ n ih => exact h.elim ih (fun ⟨u, hu, hn⟩ => (ih hu).step u y rfl hn)

theorem whole_iff {s : Int} {l : List S65} (hs : 0 < s) : (partsF s l 8 (fun _ => true)).length ≤ 1 ↔ ∀ v, 0 ≤ v → v < s → Con l (fun _ => true) 0 v := by
  obtain ⟨t, ht⟩ : ∃ t, (V s).filter (fun _ => true) = 0 :: t := by
    obtain ⟨n, rfl⟩ : ∃ n : Nat, s = ((n + 1 : Nat) : Int) := ⟨s.toNat - 1, by omega⟩
    rw [List.filter_eq_self.2 (fun _ _ => rfl)]
    unfold V
    rw [Int.toNat_natCast, List.range_succ_eq_map, List.map_cons]
    exact ⟨_, rfl⟩
  rw [partsF_cons ht 7, List.length_cons]
  constructor
  · intro h v v0 v1
    rcases Bool.eq_false_or_eq_true (cls l (fun _ => true) 0 v) with e | e
    · exact cls_iff.1 e
    · exfalso
      have hv : v ∈ (V s).filter (fun v => true && !cls l (fun _ => true) 0 v) := mem_VF.2 ⟨⟨v0, v1⟩, by rw [e]; rfl⟩
      cases hh : (V s).filter (fun v => true && !cls l (fun _ => true) 0 v) with
      | nil => rw [hh] at hv; cases hv
      | cons y t' => rw [partsF_cons hh 6, List.length_cons] at h; omega
  · intro h
    rw [partsF_nil]
    · simp
    · rw [List.filter_eq_nil_iff]
      intro v hv
      have := mem_V.1 hv
      rw [cls_iff.2 (h v this.1 this.2)]
      decide

/-- All nodes are reached from x in n steps. -/
def Hit (s : Int) (l : List S65) (n : Nat) (x : Int) : Prop := ∀ v, 0 ≤ v → v < s → Rch l x n v

theorem hit_whole {s : Int} {l : List S65} (hs : 0 < s) {n : Nat} {x : Int} (h : Hit s l n x) : ∀ v, 0 ≤ v → v < s → Con l (fun _ => true) 0 v :=
  fun v v0 v1 => con_trans (con_symm (con_rch.2 ⟨n, h 0 (by omega) hs⟩)) (con_rch.2 ⟨n, h v v0 v1⟩)

theorem whole_hit {s : Int} {l : List S65} (hG : Gr.Good s l) (hs : 0 < s) (h : ∀ v, 0 ≤ v → v < s → Con l (fun _ => true) 0 v) : Hit s l (s - 1).toNat 0 := by
  intro v v0 v1
  obtain ⟨n, hn⟩ := con_rch.1 (h v v0 v1)
  have h0 : (0 : Int) ≤ 0 ∧ 0 < s := ⟨by omega, hs⟩
  rcases rch_many hG 0 h0 (s - 1).toNat with ⟨m, hm, hst⟩ | hc
  · by_cases hnm : n ≤ m
    · exact rch_more (by omega) hn
    · exact rch_more hm (rch_stay hst n v (by omega) hn)
  · classical
    by_cases hv : Rch l 0 (s - 1).toNat v
    · exact hv
    · exfalso
      have hle := nodup_le (a := v :: (V s).filter (fun v => @decide (Rch l 0 (s - 1).toNat v) (Classical.propDecidable _))) (b := V s) (List.nodup_cons.2 ⟨fun hh => hv (of_decide_eq_true (mem_VF.1 hh).2), up_nodup (filter_up (V_up _) _)⟩) (fun y hy => by
        rcases List.mem_cons.1 hy with e | e
        · rw [e]; exact mem_V.2 ⟨v0, v1⟩
        · exact mem_V.2 (mem_VF.1 e).1)
      rw [List.length_cons, V_len] at hle
      omega

theorem filter_all {s : Int} {p : Int → Bool} : ((((V s).filter p).length : Nat) : Int) = s ↔ 0 ≤ s ∧ ∀ v, 0 ≤ v → v < s → p v = true := by
  have hl := V_len s
  constructor
  · intro h
    refine ⟨by omega, fun v v0 v1 => ?_⟩
    have h2 : (V s).filter p = V s := List.Sublist.eq_of_length List.filter_sublist (by omega)
    have := mem_V.2 ⟨v0, v1⟩
    rw [← h2] at this
    exact (mem_VF.1 this).2
  · rintro ⟨h0, h⟩
    rw [List.filter_eq_self.2 (fun v hv => h v (mem_V.1 hv).1 (mem_V.1 hv).2)]
    omega

theorem least_hit {s : Int} {l : List S65} {r0 : Int} (h0 : 0 ≤ r0) (h : ∃ x, (0 ≤ x ∧ x < s) ∧ Hit s l r0.toNat x) : ∃ R, 0 ≤ R ∧ R ≤ r0 ∧ (∃ x, (0 ≤ x ∧ x < s) ∧ Hit s l R.toNat x) ∧ ∀ r, 0 ≤ r → r < R → ∀ x, 0 ≤ x → x < s → ¬ Hit s l r.toNat x := by
  suffices hh : ∀ n : Nat, (∃ x, (0 ≤ x ∧ x < s) ∧ Hit s l n x) → ∃ R : Nat, R ≤ n ∧ (∃ x, (0 ≤ x ∧ x < s) ∧ Hit s l R x) ∧ ∀ r : Nat, r < R → ∀ x, 0 ≤ x → x < s → ¬ Hit s l r x by
    obtain ⟨R, h1, h2, h3⟩ := hh r0.toNat h
    exact ⟨R, by omega, by omega, h2, fun r hr0 hr => h3 r.toNat (by omega)⟩
  intro n
  induction n using Nat.strongRecOn with
  | _ n ih =>
    intro hn
    by_cases hc : ∃ m, m < n ∧ ∃ x, (0 ≤ x ∧ x < s) ∧ Hit s l m x
    · obtain ⟨m, hm, hx⟩ := hc
      obtain ⟨R, h1, h2, h3⟩ := ih m hm hx
      exact ⟨R, by omega, h2, h3⟩
    · exact ⟨n, Nat.le_refl _, hn, fun r hr x x0 x1 hx => hc ⟨r, hr, x, ⟨x0, x1⟩, hx⟩⟩

end Go.Proofs.Yteepmbpmhaaonaa.Gr
