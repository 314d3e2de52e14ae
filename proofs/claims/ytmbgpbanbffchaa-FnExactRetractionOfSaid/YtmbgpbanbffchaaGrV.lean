/- Covers, by both; no conditions beyond those that each theorem names. -/
import Derived.Test.YtmbgpbanbffchaaGrV0
import Derived.Test.YtmbgpbanbffchaaGrW
import Derived.Test.YtmbgpbanbffchaaPxImplNetCovers
import Derived.Test.YtmbgpbanbffchaaPxSpecL3C
namespace Go.Proofs.Ytmbgpbanbffchaa.Gr
open Go.RowKit Go.Proofs.Ytmbgpbanbffchaa.P Go.Proofs.YtmbgpbanbffchaaW.PrintWords Go.Proofs.YtmbgpbanbffchaaW.PrintLast Go.Proofs.YtmbgpbanbffchaaW.PrintMore

/-- y covers x in the set P. -/
def Cov (s : Int) (l : List S75) (P : Int → Bool) (x y : Int) : Prop := x ≠ y ∧ (0 ≤ y ∧ y < s) ∧ P y = true ∧ ∀ b : Int, 0 ≤ b → b < s → cl l x b = true → P b = true → cl l y b = true

theorem covers_cm (s : Int) (l : List S75) (hl : l.length ≤ 1048576) (hG : Gr.Good s l) (L : List Int) (hL : L.length ≤ 1048576) (hm : ∀ x ∈ L, 0 ≤ x ∧ x < s) (P : Int → Bool) (hP : ∀ b : Int, 0 ≤ b → b < s → (b ∈ L ↔ P b = true)) (x y : Int) (hx : 0 ≤ x ∧ x < s) :
    Cm (fun k => spec_l3Covers.f k s l L x y) (fun b => b = true ↔ Cov s l P x y) := by
  unfold spec_l3Covers.f
  have h8 := hG.2.1
  refine Cm.bindE (ball_ev s l hl hG x hx) ?_
  obtain ⟨B, hB⟩ : ∃ B, B = (V s).filter (cl l x) := ⟨_, rfl⟩
  have hlen : B.length ≤ s.toNat := by rw [hB]; exact VF_len
  have hmB : ∀ b, b ∈ B ↔ (0 ≤ b ∧ b < s) ∧ cl l x b = true := fun b => by rw [hB]; exact mem_VF
  rw [← hB]
  clear hB
  refine Cm.up (fun k i (_ : Unit) => spec_l3Covers.l0 k L x y B i s l) B.length (fun i _ => 0 ≤ i ∧ ∀ b ∈ B.take i.toNat, P b = true → cl l y b = true) _ ?_ 0 () (by omega) ⟨by omega, by simp⟩
  rintro i _ hi ⟨h0, ht⟩ ih
  by_cases h : i < B.length
  · have hb := (hmB _).1 (rd_mem B i h0 h)
    have go : (P (rd B i) = true → cl l y (rd B i) = true) → Cm (fun k => spec_l3Covers.l0 k L x y B (i + 1) s l) (fun b => b = true ↔ Cov s l P x y) := fun hg => ih () h ⟨by omega, fun b hb' => by
      rw [take_rd B i h0 h] at hb'
      rcases List.mem_append.1 hb' with hb' | hb'
      · exact ht b hb'
      · rw [List.mem_singleton] at hb'
        rw [hb']
        exact hg⟩
    refine Cm.step (fun k => by simp (disch := omega) only [spec_l3Covers.l0, if_pos h, if_pos h0, w64 (i + 1)]; try rfl) ?_
    refine Cm.bindE (has_ev L (rd B i) hL) (Cm.ite (fun e => ?_) (fun e => ?_))
    · have hPb := (hP _ hb.1.1 hb.1.2).1 (of_decide_eq_true e)
      refine Cm.ite (fun e1 => go (fun _ => by rw [e1]; exact cl_self l y)) (fun e1 => Cm.bindE (near_ev s l (rd B i) y hl) (Cm.ite (fun e2 => go (fun _ => ?_)) (fun e2 => Cm.now ⟨fun h => Bool.noConfusion h, fun hC => ?_⟩)))
      · rw [cl_symm]
        unfold cl
        rw [e2]
        rfl
      · have := hC.2.2.2 (rd B i) hb.1.1 hb.1.2 hb.2 hPb
        rw [cl_symm] at this
        unfold cl at this
        rw [Bool.or_eq_true, beq_iff_eq] at this
        rcases this with h' | h'
        · exact (e2 h').elim
        · exact (e1 h').elim
    · refine go (fun hPb => (e (decide_eq_true ((hP _ hb.1.1 hb.1.2).2 hPb))).elim)
  · have hall : ∀ b ∈ B, P b = true → cl l y b = true := by rw [take_all B i (by omega)] at ht; exact ht
    refine Cm.step (fun k => by simp only [spec_l3Covers.l0, if_neg h]; try rfl) ?_
    refine Cm.ite (fun e => Cm.now ⟨fun h => Bool.noConfusion h, fun hC => (hC.1 e).elim⟩) (fun e => Cm.bindE (has_ev L y hL) (Cm.now ?_))
    rw [decide_eq_true_eq]
    constructor
    · intro hy
      exact ⟨e, hm y hy, (hP y (hm y hy).1 (hm y hy).2).1 hy, fun b b0 b1 hb hPb => hall b ((hmB b).2 ⟨⟨b0, b1⟩, hb⟩) hPb⟩
    · intro hC
      exact (hP y hC.2.1.1 hC.2.1.2).2 hC.2.2.1

open Classical in
/-- The covers of x in P, in order. -/
noncomputable def covs (s : Int) (l : List S75) (P : Int → Bool) (x : Int) : List Int := (V s).filter (fun y => decide (Cov s l P x y))
open Classical in
theorem mem_covs {s : Int} {l : List S75} {P : Int → Bool} {x y : Int} : y ∈ covs s l P x ↔ Cov s l P x y := by
  unfold covs
  rw [mem_VF, decide_eq_true_eq]
  exact ⟨fun h => h.2, fun h => ⟨h.2.1, h⟩⟩
theorem covs_up (s : Int) (l : List S75) (P : Int → Bool) (x : Int) : Up (covs s l P x) := filter_up (V_up _) _
theorem covs_len (s : Int) (l : List S75) (P : Int → Bool) (x : Int) : (covs s l P x).length ≤ s.toNat := VF_len
theorem covs_congr {s : Int} {l : List S75} {P Q : Int → Bool} (h : ∀ b : Int, 0 ≤ b → b < s → P b = Q b) (x : Int) : covs s l P x = covs s l Q x := by
  refine up_ext (covs_up _ _ _ _) (covs_up _ _ _ _) (fun y => ?_)
  rw [mem_covs, mem_covs]
  unfold Cov
  constructor
  · rintro ⟨h1, h2, h3, h4⟩
    exact ⟨h1, h2, by rw [← h y h2.1 h2.2]; exact h3, fun b b0 b1 hc hq => h4 b b0 b1 hc (by rw [h b b0 b1]; exact hq)⟩
  · rintro ⟨h1, h2, h3, h4⟩
    exact ⟨h1, h2, by rw [h y h2.1 h2.2]; exact h3, fun b b0 b1 hc hq => h4 b b0 b1 hc (by rw [← h b b0 b1]; exact hq)⟩

theorem covers_impl (s : Int) (l : List S75) (hG : Gr.Good s l) (r : List Int) (hN : Net s l r) (P : Int → Bool) (m : Int) (hM : IsM s P m) (x : Int) (hx : 0 ≤ x ∧ x < s) : Ev (fun k => impl_net_covers.f k r m x) (covs s l P x) := by
  refine Cm.ev ?_
  unfold impl_net_covers.f
  have h8 := hG.2.1
  have h1 := one_ok x hx.1 (by omega)
  have h2 := not_ok m _ hM.1 h1.1
  refine Cm.pos hx.1 (Cm.bindE (setP_ev _ h2.1 s h8 (fun v => P v && !(v == x)) (fun v v0 v1 => by rw [h2.2 v v0 (by omega), hM.2 v v0 v1, h1.2 v v0 (by omega), Bool.and_assoc])) ?_)
  obtain ⟨B, hB⟩ : ∃ B, B = (V s).filter (fun v => P v && !(v == x)) := ⟨_, rfl⟩
  have hlen : B.length ≤ s.toNat := by rw [hB]; exact VF_len
  have hmB : ∀ b, b ∈ B ↔ (0 ≤ b ∧ b < s) ∧ P b = true ∧ b ≠ x := fun b => by rw [hB, mem_VF, Bool.and_eq_true]; simp
  have hup : Up B := by rw [hB]; exact filter_up (V_up _) _
  rw [← hB]
  clear hB
  obtain ⟨cx, ex, hcx, hbx⟩ := closed_eq hN h8 x hx
  have h3 := and_ok cx m hcx hM.1
  have key : ∀ y : Int, y ∈ B → ∃ cy, impl_net_closed.f r y = some cy ∧ (Go.bits .andNot .i64 (Go.bits .and .i64 cx m) cy = 0 ↔ Cov s l P x y) := fun y hy => by
    have hy' := (hmB y).1 hy
    obtain ⟨cy, ey, hcy, hby⟩ := closed_eq hN h8 y hy'.1
    have h4 := not_ok _ cy h3.1 hcy
    refine ⟨cy, ey, ?_⟩
    constructor
    · intro e
      refine ⟨fun e => hy'.2.2 e.symm, hy'.1, hy'.2.1, fun b b0 b1 hb hPb => ?_⟩
      have := h4.2 b b0 (by omega)
      rw [e, zero_ok.2 b b0 (by omega), h3.2 b b0 (by omega), hbx b b0 (by omega), hM.2 b b0 (by omega), hb, hPb, decide_eq_true b1, hby b b0 (by omega)] at this
      simpa using this
    · intro hC
      refine mask_ext _ _ h4.1 zero_ok.1 (fun b b0 b1 => ?_)
      rw [h4.2 b b0 (by omega), h3.2 b b0 (by omega), hbx b b0 b1, hM.2 b b0 b1, hby b b0 b1, zero_ok.2 b b0 (by omega)]
      by_cases hbs : b < s
      · by_cases hb : cl l x b = true
        · by_cases hPb : P b = true
          · rw [hC.2.2.2 b b0 hbs hb hPb]; simp
          · rw [Bool.eq_false_iff.2 hPb]; simp
        · rw [Bool.eq_false_iff.2 hb]; simp
      · rw [decide_eq_false hbs]; simp
  refine Cm.up (fun k i a => impl_net_covers.l0 k m x a B B.length i r) B.length (fun i a => 0 ≤ i ∧ (a.length : Int) ≤ i ∧ Up a ∧ ∀ y, y ∈ a ↔ y ∈ B.take i.toNat ∧ Cov s l P x y) _ ?_ 0 [] (by omega) ⟨by omega, by simp, List.Pairwise.nil, by simp⟩
  rintro i a hi ⟨h0, hal, hau, ham⟩ ih
  by_cases h : i < B.length
  · obtain ⟨cy, ey, hcy⟩ := key _ (rd_mem B i h0 h)
    by_cases e : Go.bits .andNot .i64 (Go.bits .and .i64 cx m) cy = 0
    · refine Cm.step (fun k => by simp (disch := omega) only [impl_net_covers.l0, if_pos h, if_pos h0, ex, ey, Option.bind_some, if_pos e, w64 (i + 1), if_pos]; try rfl) (ih _ h ⟨by omega, by rw [List.length_append, List.length_singleton]; omega, ?_, fun y => ?_⟩)
      · refine List.pairwise_append.2 ⟨hau, List.pairwise_singleton _ _, fun b hb c hc => ?_⟩
        rw [List.mem_singleton] at hc
        subst hc
        have := ((ham b).1 hb).1
        obtain ⟨j, hj, hje⟩ := List.mem_iff_getElem.1 this
        rw [List.getElem_take] at hje
        rw [List.length_take] at hj
        rw [← hje, ← rd_eq B j (by omega)]
        exact up_rd hup j i (by omega) (by omega) h
      · rw [List.mem_append, List.mem_singleton, ham, take_rd B i h0 h, List.mem_append, List.mem_singleton]
        constructor
        · rintro (⟨h5, h6⟩ | h5)
          · exact ⟨.inl h5, h6⟩
          · rw [h5]; exact ⟨.inr rfl, hcy.1 e⟩
        · rintro ⟨h5 | h5, h6⟩
          · exact .inl ⟨h5, h6⟩
          · exact .inr h5
    · refine Cm.step (fun k => by simp (disch := omega) only [impl_net_covers.l0, if_pos h, if_pos h0, ex, ey, Option.bind_some, if_neg e, w64 (i + 1)]; try rfl) (ih _ h ⟨by omega, by omega, hau, fun y => ?_⟩)
      rw [ham, take_rd B i h0 h, List.mem_append, List.mem_singleton]
      constructor
      · rintro ⟨h5, h6⟩
        exact ⟨.inl h5, h6⟩
      · rintro ⟨h5 | h5, h6⟩
        · exact ⟨h5, h6⟩
        · rw [h5] at h6; exact (e (hcy.2 h6)).elim
  · refine Cm.step (fun k => by simp only [impl_net_covers.l0, if_neg h]; try rfl) (Cm.now ?_)
    refine up_ext hau (covs_up _ _ _ _) (fun y => ?_)
    rw [ham, mem_covs, take_all B i (by omega), hmB]
    exact ⟨fun h => h.2, fun h => ⟨⟨h.2.1, h.2.2.1, fun e => h.1 e.symm⟩, h⟩⟩

end Go.Proofs.Ytmbgpbanbffchaa.Gr
