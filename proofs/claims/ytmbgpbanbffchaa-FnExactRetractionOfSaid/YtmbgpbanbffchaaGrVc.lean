/- The least cover, by the reference; no conditions beyond those that each theorem names. -/
import Derived.Test.YtmbgpbanbffchaaGrV
import Derived.Test.YtmbgpbanbffchaaPxSpecL3C
namespace Go.Proofs.Ytmbgpbanbffchaa.Gr
open Go.RowKit Go.Proofs.Ytmbgpbanbffchaa.P Go.Proofs.YtmbgpbanbffchaaW.PrintWords Go.Proofs.YtmbgpbanbffchaaW.PrintLast Go.Proofs.YtmbgpbanbffchaaW.PrintMore

theorem cover_ev (s : Int) (l : List S75) (hl : l.length ≤ 1048576) (hG : Gr.Good s l) (L : List Int) (hL : L.length ≤ 1048576) (hu : Up L) (hm : ∀ x ∈ L, 0 ≤ x ∧ x < s) (P : Int → Bool) (hP : ∀ b : Int, 0 ≤ b → b < s → (b ∈ L ↔ P b = true)) (x : Int) (hx : 0 ≤ x ∧ x < s) :
    Ev (fun k => spec_l3Cover.f k s l L x) ((covs s l P x).headD (-1)) := by
  refine Cm.ev ?_
  unfold spec_l3Cover.f
  refine Cm.up (fun k i (_ : Unit) => spec_l3Cover.l0 k L x i s l) L.length (fun i _ => 0 ≤ i ∧ ∀ b ∈ L.take i.toNat, ¬ Cov s l P x b) _ ?_ 0 () (by omega) ⟨by omega, by simp⟩
  rintro i _ hi ⟨h0, ht⟩ ih
  by_cases h : i < L.length
  · refine Cm.step (fun k => by simp (disch := omega) only [spec_l3Cover.l0, if_pos h, if_pos h0, w64 (i + 1)]; try rfl) ?_
    refine Cm.bind (covers_cm s l hl hG L hL hm P hP x (rd L i) hx) (fun b hb => Cm.ite (fun e => Cm.now ?_) (fun e => ih () h ⟨by omega, fun b' hb' => ?_⟩))
    · have hc := mem_covs.2 (hb.1 e)
      cases hcs : covs s l P x with
      | nil => rw [hcs] at hc; cases hc
      | cons a t =>
        show rd L i = a
        rw [hcs] at hc
        have ha : a ∈ covs s l P x := by rw [hcs]; exact List.mem_cons_self
        have haC := mem_covs.1 ha
        have hup := covs_up s l P x
        rw [hcs] at hup
        rcases List.mem_cons.1 hc with e' | e'
        · exact e'
        · have hlt := (List.pairwise_cons.1 hup).1 _ e'
          obtain ⟨j, j0, j1, j2⟩ := mem_rd ((hP a haC.2.1.1 haC.2.1.2).2 haC.2.2.1)
          by_cases hji : j < i
          · refine (ht a ?_ haC).elim
            rw [← j2, List.mem_iff_getElem]
            exact ⟨j.toNat, by rw [List.length_take]; omega, by rw [List.getElem_take, ← rd_eq L j.toNat (by omega), Int.toNat_of_nonneg j0]⟩
          · by_cases ej : j = i
            · rw [← j2, ej] at hlt; omega
            · have := up_rd hu i j h0 (by omega) j1
              omega
    · rw [take_rd L i h0 h] at hb'
      rcases List.mem_append.1 hb' with hb' | hb'
      · exact ht b' hb'
      · rw [List.mem_singleton] at hb'
        rw [hb']
        exact fun hC => e (hb.2 hC)
  · refine Cm.step (fun k => by simp only [spec_l3Cover.l0, if_neg h]; try rfl) (Cm.now ?_)
    rw [take_all L i (by omega)] at ht
    cases hcs : covs s l P x with
    | nil => rfl
    | cons a t =>
      have ha : a ∈ covs s l P x := by rw [hcs]; exact List.mem_cons_self
      have haC := mem_covs.1 ha
      exact (ht a ((hP a haC.2.1.1 haC.2.1.2).2 haC.2.2.1) haC).elim

end Go.Proofs.Ytmbgpbanbffchaa.Gr
