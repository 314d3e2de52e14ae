/- Balls, by the reference; no conditions beyond those that each theorem names. -/
import Derived.Test.YteepmbpmhaaonaaGrDs
import Derived.Test.YteepmbpmhaaonaaPxSpecL2Within
namespace Go.Proofs.Yteepmbpmhaaonaa.Gr
open Go.RowKit Go.Proofs.Yteepmbpmhaaonaa.P Go.Proofs.YteepmbpmhaaonaaW.PrintWords Go.Proofs.YteepmbpmhaaonaaW.PrintLast Go.Proofs.YteepmbpmhaaonaaW.PrintMore

theorem lev_rch {s : Int} {l : List S65} (hG : Gr.Good s l) {x : Int} (hx : 0 ≤ x ∧ x < s) {row : List Int} (h : Lev s l x s row) (r : Int) (hr : 0 ≤ r) (v : Int) (v0 : 0 ≤ v) (v1 : v < s) : (0 ≤ rd row v ∧ rd row v ≤ r) ↔ Rch l x r.toNat v := by
  obtain ⟨h1, h2⟩ := h.2 v v0 v1
  by_cases hrs : r ≤ s
  · have := h2 r.toNat (by omega)
    rw [Int.toNat_of_nonneg hr] at this
    exact this
  · have := h2 s.toNat (by omega)
    rw [Int.toNat_of_nonneg (by omega)] at this
    constructor
    · intro h3
      exact rch_more (by omega) (this.1 ⟨h3.1, by omega⟩)
    · intro h3
      have := this.2 (rch_all hG x hx r.toNat (by omega) v h3)
      omega

open Classical in
theorem within_ev (s : Int) (l : List S65) (hl : l.length ≤ 1048576) (hG : Gr.Good s l) (x : Int) (hx : 0 ≤ x ∧ x < s) (r : Int) (hr : 0 ≤ r) : Ev (fun k => spec_l2Within.f k s l x r) ((V s).filter (fun v => decide (Rch l x r.toNat v))) := by
  refine Cm.ev ?_
  unfold spec_l2Within.f
  have h8 := hG.2.1
  obtain ⟨t, e, htl, ht⟩ := dist_cm s l hl hG
  refine Cm.bindE e (Cm.pos hx.1 (Cm.pos (by omega) ?_))
  change Cm (fun k => spec_l2Within.l0 k r [] (t.getD x.toNat []) 0 s l) _
  have hlev := ht x hx.1 hx.2
  obtain ⟨row, hrow⟩ : ∃ row, row = t.getD x.toNat [] := ⟨_, rfl⟩
  rw [← hrow] at hlev ⊢
  clear hrow
  have hrl := hlev.1
  refine Cm.up (fun k i a => spec_l2Within.l0 k r a row i s l) s (fun i a => 0 ≤ i ∧ a = (V i).filter (fun v => decide (Rch l x r.toNat v))) _ ?_ 0 [] (by omega) ⟨by omega, rfl⟩
  rintro i a hi ⟨i0, rfl⟩ ih
  have hal : ((V i).filter (fun v => decide (Rch l x r.toNat v))).length ≤ i.toNat := VF_len
  by_cases h : i < s
  · have hc := lev_rch hG hx hlev r hr i i0 h
    refine Cm.step (fun k => by simp (disch := omega) only [spec_l2Within.l0, if_pos h, if_pos i0, if_pos (show i < (row.length : Int) by omega), l1In_eq, Option.bind_some, w64 (i + 1)]; try rfl) ?_
    refine Cm.ite (fun e => Cm.pos (by omega) (ih _ h ⟨by omega, ?_⟩)) (fun e => ih _ h ⟨by omega, ?_⟩)
    · rw [VF_succ i0, if_pos (decide_eq_true (hc.1 (of_decide_eq_true e)))]
    · rw [VF_succ i0, if_neg (fun e' => e (decide_eq_true (hc.2 (of_decide_eq_true e')))), List.append_nil]
  · refine Cm.step (fun k => by simp only [spec_l2Within.l0, if_neg h]; try rfl) (Cm.now ?_)
    rw [show i = s by omega]

end Go.Proofs.Yteepmbpmhaaonaa.Gr
