/- What is reached in some steps: distances and balls, by both; no conditions beyond those that each theorem names. -/
import Derived.Test.YtbnhckhbjoldcaaGrAr
import Derived.Test.YtbnhckhbjoldcaaPxImplNetBall
import Derived.Test.YtbnhckhbjoldcaaPxSpecL2Dist
namespace Go.Proofs.Ytbnhckhbjoldcaa.Gr
open Go.RowKit Go.Proofs.Ytbnhckhbjoldcaa.P Go.Proofs.YtbnhckhbjoldcaaW.PrintWords Go.Proofs.YtbnhckhbjoldcaaW.PrintLast Go.Proofs.YtbnhckhbjoldcaaW.PrintMore

/-- v is reached from x in n steps at most. -/
def Rch (l : List S82) (x : Int) : Nat → Int → Prop
  | 0, v => v = x
  | n + 1, v => Rch l x n v ∨ ∃ u, Rch l x n u ∧ near l u v = true
theorem rch_more {l : List S82} {x : Int} {n m : Nat} (h : n ≤ m) {v : Int} (hv : Rch l x n v) : Rch l x m v := by
  obtain ⟨d, rfl⟩ := Nat.le.dest h
  induction d with
  | zero => exact hv
  | succ d ih => exact .inl (ih (by omega))
theorem rch_in {s : Int} {l : List S82} (hG : Gr.Good s l) {x : Int} (hx : 0 ≤ x ∧ x < s) : ∀ (n : Nat) (v : Int), Rch l x n v → 0 ≤ v ∧ v < s
  | 0, v, h => by rw [show v = x from h]; exact hx
  | n + 1, v, h => h.elim (rch_in hG hx n v) (fun ⟨_, _, hn⟩ => (near_in hG hn).2.1)
theorem rch_stay {l : List S82} {x : Int} {n : Nat} (h : ∀ v, Rch l x (n + 1) v → Rch l x n v) : ∀ (m : Nat) (v : Int), n ≤ m → Rch l x m v → Rch l x n v := by
  intro m
  induction m with
  | zero => intro v hm hv; exact rch_more (by omega) hv
  | succ m ih =>
    intro v hm hv
    by_cases e : n = m + 1
    · rw [e]; exact hv
    · rcases hv with h1 | ⟨u, h1, h2⟩
      · exact ih v (by omega) h1
      · exact h v (.inr ⟨u, ih u (by omega) h1, h2⟩)

open Classical in
theorem rch_many {s : Int} {l : List S82} (hG : Gr.Good s l) (x : Int) (hx : 0 ≤ x ∧ x < s) : ∀ n : Nat, (∃ m, m ≤ n ∧ ∀ v, Rch l x (m + 1) v → Rch l x m v) ∨ n + 1 ≤ ((V s).filter (fun v => decide (Rch l x n v))).length
  | 0 => .inr (by
    have := List.length_pos_of_mem (mem_VF.2 ⟨hx, decide_eq_true (show Rch l x 0 x from rfl)⟩ : x ∈ (V s).filter (fun v => decide (Rch l x 0 v)))
    omega)
  | n + 1 => by
    rcases rch_many hG x hx n with ⟨m, hm, h⟩ | h
    · exact .inl ⟨m, by omega, h⟩
    · by_cases hs : ∃ v, Rch l x (n + 1) v ∧ ¬ Rch l x n v
      · obtain ⟨v, h1, h2⟩ := hs
        refine .inr ?_
        have hv := rch_in hG hx (n + 1) v h1
        have hle := nodup_le (a := v :: (V s).filter (fun v => decide (Rch l x n v))) (b := (V s).filter (fun v => decide (Rch l x (n + 1) v))) (List.nodup_cons.2 ⟨fun hh => h2 (of_decide_eq_true (mem_VF.1 hh).2), up_nodup (filter_up (V_up _) _)⟩) (fun y hy => by
          rcases List.mem_cons.1 hy with e | e
          · rw [e]; exact mem_VF.2 ⟨hv, decide_eq_true h1⟩
          · have := mem_VF.1 e
            exact mem_VF.2 ⟨this.1, decide_eq_true (.inl (of_decide_eq_true this.2))⟩)
        rw [List.length_cons] at hle
        omega
      · exact .inl ⟨n, by omega, fun v hv => Classical.byContradiction (fun hc => hs ⟨v, hv, hc⟩)⟩
theorem rch_all {s : Int} {l : List S82} (hG : Gr.Good s l) (x : Int) (hx : 0 ≤ x ∧ x < s) (n : Nat) (hn : s ≤ n) (v : Int) (h : Rch l x n v) : Rch l x s.toNat v := by
  rcases rch_many hG x hx s.toNat with ⟨m, hm, hs⟩ | hs
  · exact rch_more hm (rch_stay hs n v (by omega) h)
  · have := @VF_len s (fun v => @decide (Rch l x s.toNat v) (Classical.propDecidable _))
    omega

/-- The ball of the program: what is reached in r steps. -/
theorem ball_impl (s : Int) (l : List S82) (hG : Gr.Good s l) (m : List Int) (hm : Net s l m) (x : Int) (hx : 0 ≤ x ∧ x < s) (r : Int) (hr0 : 0 ≤ r) (hr : r ≤ 9223372036854775807) : Cm (fun k => impl_net_ball.f k m x r) (fun b => M8 b ∧ ∀ v : Int, 0 ≤ v → v < 8 → (bit b v = true ↔ Rch l x r.toNat v)) := by
  unfold impl_net_ball.f
  have h8 := hG.2.1
  have h1 := one_ok x hx.1 (by omega)
  refine Cm.pos hx.1 ?_
  refine Cm.meas (fun k (z : Int × Int) => impl_net_ball.l0 k z.1 z.2 m) (fun z => z.1.toNat) (fun z => 0 ≤ z.1 ∧ z.1 ≤ r ∧ M8 z.2 ∧ ∀ v : Int, 0 ≤ v → v < 8 → (bit z.2 v = true ↔ Rch l x (r - z.1).toNat v)) (fun _ b => M8 b ∧ ∀ v : Int, 0 ≤ v → v < 8 → (bit b v = true ↔ Rch l x r.toNat v)) ?_ (r, shl .i64 1 x) ⟨hr0, Int.le_refl _, h1.1, fun v v0 v1 => ?_⟩
  · rintro ⟨i, q⟩ ⟨i0, ir, hq, hb⟩ ih
    dsimp only at i0 ir hq hb
    by_cases h : i > 0
    · refine Cm.step (fun k => by simp (disch := omega) only [impl_net_ball.l0, if_pos h, w64 (i - 1)]; try rfl) (Cm.bind (around_cm s l h8 m hm q hq) ?_)
      rintro t ⟨ht, htb⟩
      have hstep : ∀ v : Int, 0 ≤ v → v < 8 → (bit t v = true ↔ Rch l x ((r - i).toNat + 1) v) := fun v v0 v1 => by
        rw [htb v v0 v1]
        constructor
        · rintro (h2 | ⟨u, hu, h2, h3⟩)
          · exact .inl ((hb v v0 v1).1 h2)
          · exact .inr ⟨u, (hb u hu.1 (by omega)).1 h2, h3⟩
        · rintro (h2 | ⟨u, h2, h3⟩)
          · exact .inl ((hb v v0 v1).2 h2)
          · have hu := rch_in hG hx _ u h2
            exact .inr ⟨u, hu, (hb u hu.1 (by omega)).2 h2, h3⟩
      refine Cm.ite (fun e => Cm.now ⟨hq, fun v v0 v1 => ?_⟩) (fun e => ih (i - 1, t) ⟨by dsimp only; omega, by dsimp only; omega, ht, fun v v0 v1 => ?_⟩ (by dsimp only; omega))
      · rw [hb v v0 v1]
        refine ⟨fun h2 => rch_more (by omega) h2, fun h2 => rch_stay (n := (r - i).toNat) (fun w hw => ?_) r.toNat v (by omega) h2⟩
        have hwn := rch_in hG hx _ w hw
        have := (hstep w hwn.1 (by omega)).2 hw
        rw [e] at this
        exact (hb w hwn.1 (by omega)).1 this
      · dsimp only
        rw [hstep v v0 v1, show (r - (i - 1)).toNat = (r - i).toNat + 1 by omega]
    · refine Cm.step (fun k => by simp only [impl_net_ball.l0, if_neg h]; try rfl) (Cm.now ⟨hq, fun v v0 v1 => ?_⟩)
      rw [hb v v0 v1, show r - i = r by omega]
  · dsimp only
    rw [h1.2 v v0 (by omega), beq_iff_eq, show (r - r).toNat = 0 by omega]
    exact Iff.rfl

end Go.Proofs.Ytbnhckhbjoldcaa.Gr
