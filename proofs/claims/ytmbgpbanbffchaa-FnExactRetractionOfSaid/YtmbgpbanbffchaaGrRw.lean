/- A set without a node, by the reference; no conditions beyond those that each theorem names. -/
import Derived.Test.YtmbgpbanbffchaaGrRb
import Derived.Test.YtmbgpbanbffchaaPxSpecL2S
namespace Go.Proofs.Ytmbgpbanbffchaa.Gr
open Go.RowKit Go.Proofs.Ytmbgpbanbffchaa.P Go.Proofs.YtmbgpbanbffchaaW.PrintWords Go.Proofs.YtmbgpbanbffchaaW.PrintLast Go.Proofs.YtmbgpbanbffchaaW.PrintMore

theorem without_ev (s x : Int) (P : Int → Bool) (h8 : s ≤ 8) : Ev (fun k => spec_l2Without.f k ((V s).filter P) x) ((V s).filter (without P x)) := by
  refine Cm.ev ?_
  unfold spec_l2Without.f
  obtain ⟨L, hL⟩ : ∃ L, L = (V s).filter P := ⟨_, rfl⟩
  have hlen : L.length ≤ s.toNat := by rw [hL]; exact VF_len
  have hfin : L.filter (fun y => !(y == x)) = (V s).filter (without P x) := by rw [hL, List.filter_filter]; exact List.filter_congr (fun y _ => Bool.and_comm _ _)
  rw [← hL]
  refine Cm.up (fun k i a => spec_l2Without.l0 k L x a i) L.length (fun i a => 0 ≤ i ∧ a = (L.take i.toNat).filter (fun y => !(y == x))) _ ?_ 0 [] (by omega) ⟨by omega, rfl⟩
  rintro i a hi ⟨h0, rfl⟩ ih
  have hal : ((L.take i.toNat).filter (fun y => !(y == x))).length ≤ L.length := Nat.le_trans (List.length_filter_le _ _) (by rw [List.length_take]; omega)
  by_cases h : i < L.length
  · by_cases e : rd L i = x
    · refine Cm.step (fun k => by simp (disch := omega) only [spec_l2Without.l0, if_pos h, if_pos h0, if_pos e, w64 (i + 1)]; try rfl) (ih _ h ⟨by omega, ?_⟩)
      rw [take_rd L i h0 h, List.filter_append, List.filter_cons, e]
      simp
    · refine Cm.step (fun k => by simp (disch := omega) only [spec_l2Without.l0, if_pos h, if_pos h0, if_neg e, w64 (i + 1), if_pos]; try rfl) (ih _ h ⟨by omega, ?_⟩)
      have e' : (rd L i == x) = false := by simpa using e
      rw [take_rd L i h0 h, List.filter_append, List.filter_cons, e']
      rfl
  · refine Cm.step (fun k => by simp only [spec_l2Without.l0, if_neg h]; try rfl) (Cm.now ?_)
    rw [take_all L i (by omega), hfin]

end Go.Proofs.Ytmbgpbanbffchaa.Gr
