/- The nodes of a mask's bits and all nodes, by the reference; no conditions beyond those that each theorem names. -/
import Derived.Test.YtmbgpbanbffchaaGrV
import Derived.Test.YtmbgpbanbffchaaPxSpecL2S
namespace Go.Proofs.Ytmbgpbanbffchaa.Gr
open Go.RowKit Go.Proofs.Ytmbgpbanbffchaa.P Go.Proofs.YtmbgpbanbffchaaW.PrintWords Go.Proofs.YtmbgpbanbffchaaW.PrintLast Go.Proofs.YtmbgpbanbffchaaW.PrintMore

theorem bits_ev (s m : Int) (h0 : 0 ≤ s) (h8 : s ≤ 8) : Ev (fun k => spec_l2Bits.f k s m) ((V s).filter (bit m)) := by
  refine Cm.ev ?_
  unfold spec_l2Bits.f
  refine Cm.up (fun k i a => spec_l2Bits.l0 k s m a i) s (fun i a => 0 ≤ i ∧ a = (V i).filter (bit m)) _ ?_ 0 [] (by omega) ⟨by omega, rfl⟩
  rintro i a hi ⟨i0, rfl⟩ ih
  have hlen : ((V i).filter (bit m)).length ≤ i.toNat := VF_len
  by_cases h : i < s
  · by_cases e : Go.bits .and .i64 (shr .i64 m i) 1 = 1
    · refine Cm.step (fun k => by simp (disch := omega) only [spec_l2Bits.l0, if_pos h, if_pos i0, if_pos e, w64 (i + 1), if_pos]; try rfl) (ih _ h ⟨by omega, ?_⟩)
      rw [VF_succ i0, if_pos (show bit m i = true by unfold bit; rw [e]; rfl)]
    · refine Cm.step (fun k => by simp (disch := omega) only [spec_l2Bits.l0, if_pos h, if_pos i0, if_neg e, w64 (i + 1)]; try rfl) (ih _ h ⟨by omega, ?_⟩)
      rw [VF_succ i0, if_neg (show ¬ bit m i = true by unfold bit; rw [beq_iff_eq]; exact e), List.append_nil]
  · refine Cm.step (fun k => by simp only [spec_l2Bits.l0, if_neg h]; try rfl) (Cm.now ?_)
    rw [show i = s by omega]
theorem all_ev (s : Int) (l : List S75) (h0 : 0 ≤ s) (h8 : s ≤ 8) : Ev (fun k => spec_l2All.f k s l) ((V s).filter (fun _ => true)) := by
  refine Cm.ev ?_
  unfold spec_l2All.f
  have hf := full_ok s h0 h8
  refine Cm.pos h0 (Cm.bindE (bits_ev s _ h0 h8) (Cm.now ?_))
  exact VF_congr (fun x x0 x1 => by rw [hf.2 x x0 (by omega), decide_eq_true x1])

theorem mask_all {s : Int} (h0 : 0 ≤ s) (h8 : s ≤ 8) : IsM s (fun _ => true) (wrap64 (shl .i64 1 s - 1)) := by
  have h := full_ok s h0 h8
  exact ⟨h.1, fun v v0 v1 => by rw [h.2 v v0 (by omega), Bool.and_true]⟩

/-- A set without a node. -/
def without (P : Int → Bool) (x : Int) (y : Int) : Bool := P y && !(y == x)
theorem mask_without {s : Int} {P : Int → Bool} {m x : Int} (h : IsM s P m) (hx : 0 ≤ x ∧ x < 8) : IsM s (without P x) (Go.bits .andNot .i64 m (shl .i64 1 x)) := by
  have h1 := one_ok x hx.1 hx.2
  have h2 := not_ok m _ h.1 h1.1
  refine ⟨h2.1, fun v v0 v1 => ?_⟩
  rw [h2.2 v v0 (by omega), h.2 v v0 v1, h1.2 v v0 (by omega), Bool.and_assoc]
  rfl

end Go.Proofs.Ytmbgpbanbffchaa.Gr
