/- Balls and covers, by both; no conditions beyond those that each theorem names. -/
import Derived.Test.YteepmbpmhaaonaaGrW
import Derived.Test.YteepmbpmhaaonaaGrQ
import Derived.Test.YteepmbpmhaaonaaPxImplNetCovers
import Derived.Test.YteepmbpmhaaonaaPxNetA
import Derived.Test.YteepmbpmhaaonaaPxSpecL1Put
import Derived.Test.YteepmbpmhaaonaaPxSpecL2Ball
import Derived.Test.YteepmbpmhaaonaaPxSpecL2Neighbors
import Derived.Test.YteepmbpmhaaonaaPxSpecL3Covers
namespace Go.Proofs.Yteepmbpmhaaonaa.Gr
open Go.RowKit Go.Proofs.Yteepmbpmhaaonaa.P Go.Proofs.YteepmbpmhaaonaaW.PrintWords Go.Proofs.YteepmbpmhaaonaaW.PrintLast Go.Proofs.YteepmbpmhaaonaaW.PrintMore

theorem l1Put_cm (l : List Int) (e : Int) (hl : l.length ≤ 1048577) (hu : Up l) (he : e ∉ l) : Cm (fun k => spec_l1Put.f k l e) (fun r => Up r ∧ (∀ x, x ∈ r ↔ x = e ∨ x ∈ l) ∧ r.length = l.length + 1) := by
  unfold spec_l1Put.f
  have fin : ∀ i : Int, 0 ≤ i → i ≤ l.length → (∀ x ∈ l.take i.toNat, x < e) → (∀ x ∈ l.drop i.toNat, e < x) → Up (l.take i.toNat ++ [e] ++ l.drop i.toNat) ∧ (∀ x, x ∈ l.take i.toNat ++ [e] ++ l.drop i.toNat ↔ x = e ∨ x ∈ l) ∧ (l.take i.toNat ++ [e] ++ l.drop i.toNat).length = l.length + 1 := by
    intro i h0 h1 ht hd
    have hs : l.take i.toNat ++ l.drop i.toNat = l := List.take_append_drop _ _
    have hu' := hu
    rw [← hs] at hu'
    have hp := List.pairwise_append.1 hu'
    refine ⟨?_, fun x => ?_, ?_⟩
    · refine List.pairwise_append.2 ⟨List.pairwise_append.2 ⟨hp.1, List.pairwise_singleton _ _, fun a ha b hb => ?_⟩, hp.2.1, fun a ha b hb => ?_⟩
      · rw [List.mem_singleton] at hb
        subst hb
        exact ht a ha
      · rcases List.mem_append.1 ha with ha | ha
        · exact hp.2.2 a ha b hb
        · rw [List.mem_singleton] at ha
          subst ha
          exact hd b hb
    · rw [List.mem_append, List.mem_append, List.mem_singleton]
      constructor
      · rintro ((h | h) | h)
        · exact .inr (List.mem_of_mem_take h)
        · exact .inl h
        · exact .inr (List.mem_of_mem_drop h)
      · rintro (h | h)
        · exact .inl (.inr h)
        · rw [← hs] at h
          rcases List.mem_append.1 h with h | h
          · exact .inl (.inl h)
          · exact .inr h
    · rw [List.length_append, List.length_append, List.length_take, List.length_drop, List.length_singleton]
      omega
  refine Cm.up (fun k i (_ : Unit) => spec_l1Put.l0 k l e i) l.length (fun i _ => 0 ≤ i ∧ ∀ x ∈ l.take i.toNat, x < e) _ ?_ 0 () (by omega) ⟨by omega, fun x hx => by cases hx⟩
  rintro i _ hi ⟨h0, ht⟩ ih
  by_cases h : i < l.length
  · have hne : rd l i ≠ e := fun e' => he (e' ▸ rd_mem l i h0 h)
    by_cases hb : rd l i < e
    · refine Cm.step (fun k => by simp (disch := omega) only [spec_l1Put.l0, w64 (i + 1), if_pos]; try rfl) (ih () h ⟨by omega, ?_⟩)
      rw [take_rd l i h0 h]
      intro x hx
      rcases List.mem_append.1 hx with hx | hx
      · exact ht x hx
      · rw [List.mem_singleton] at hx
        subst hx
        exact hb
    · have hd : ∀ x ∈ l.drop i.toNat, e < x := by
        intro x hx
        obtain ⟨j, hj, rfl⟩ := List.mem_iff_getElem.1 hx
        rw [List.getElem_drop]
        have hr := rd_eq l i.toNat (by omega)
        rw [Int.toNat_of_nonneg h0] at hr
        by_cases hj0 : j = 0
        · subst hj0
          simp only [Nat.add_zero]
          rw [← hr]
          omega
        · rw [List.length_drop] at hj
          have := List.pairwise_iff_getElem.1 hu i.toNat (i.toNat + j) (by omega) (by omega) (by omega)
          rw [← hr] at this
          omega
      have hF := fin i h0 (by omega) ht hd
      refine Cm.step (fun k => by simp (disch := omega) only [spec_l1Put.l0, if_pos h, if_pos h0, if_neg hb, if_neg hne, Option.bind_some, List.nil_append, List.length_nil, Nat.zero_add, List.length_append, List.length_take, List.length_drop, List.length_singleton, if_pos]; try rfl) (Cm.now hF)
  · have e1 : l.take i.toNat = l := take_all l i (by omega)
    have hd : ∀ x ∈ l.drop i.toNat, e < x := by
      rw [List.drop_eq_nil_of_le (by omega)]
      intro x hx
      cases hx
    have hF := fin i h0 (by omega) ht hd
    refine Cm.step (fun k => by simp (disch := omega) only [spec_l1Put.l0, Option.bind_some, if_neg h, if_pos h0, List.nil_append, List.length_nil, Nat.zero_add, List.length_append, List.length_take, List.length_drop, List.length_singleton, if_pos]; try rfl) (Cm.now hF)

theorem nbs_ev' (s : Int) (l : List S65) (hl : l.length ≤ 1048576) (h8 : s ≤ 8) (h0 : 0 ≤ s) (u : Int) : Ev (fun k => spec_l2Neighbors.f k s l u) ((V s).filter (near l u)) := by
  refine Cm.ev ?_
  unfold spec_l2Neighbors.f
  refine Cm.up (fun k i a => spec_l2Neighbors.l0 k u a i s l) s (fun i a => 0 ≤ i ∧ a = (V i).filter (near l u)) _ ?_ 0 [] (by omega) ⟨by omega, rfl⟩
  rintro i a hi ⟨i0, rfl⟩ ih
  have hlen : ((V i).filter (near l u)).length ≤ i.toNat := VF_len
  by_cases h : i < s
  · refine Cm.step (fun k => by simp (disch := omega) only [spec_l2Neighbors.l0, if_pos h, w64 (i + 1)]; try rfl) ?_
    refine Cm.bindE (near_ev s l u i hl) (Cm.ite (fun e => Cm.pos (by omega) (ih _ h ⟨by omega, ?_⟩)) (fun e => ih _ h ⟨by omega, ?_⟩))
    · rw [VF_succ i0, if_pos e]
    · rw [VF_succ i0, if_neg e, List.append_nil]
  · refine Cm.step (fun k => by simp only [spec_l2Neighbors.l0, if_neg h]; try rfl) (Cm.now ?_)
    rw [show i = s by omega]

/-- Near, or the same. -/
def cl (l : List S65) (u v : Int) : Bool := near l u v || u == v
theorem cl_symm (l : List S65) (u v : Int) : cl l u v = cl l v u := by
  unfold cl
  rw [near_symm l u v, Bool.eq_iff_iff, Bool.or_eq_true, Bool.or_eq_true, beq_iff_eq, beq_iff_eq]
  exact or_congr Iff.rfl eq_comm
theorem cl_self (l : List S65) (u : Int) : cl l u u = true := by unfold cl; simp
theorem cl_out {s : Int} {l : List S65} (hG : Gr.Good s l) {u v : Int} (hu : 0 ≤ u ∧ u < s) (h : cl l u v = true) : 0 ≤ v ∧ v < s := by
  unfold cl at h
  rw [Bool.or_eq_true, beq_iff_eq] at h
  rcases h with h | h
  · exact (near_in hG h).2.1
  · exact h ▸ hu
theorem ball_ev (s : Int) (l : List S65) (hl : l.length ≤ 1048576) (hG : Gr.Good s l) (u : Int) (hu : 0 ≤ u ∧ u < s) : Ev (fun k => spec_l2Ball.f k s l u) ((V s).filter (cl l u)) := by
  refine Cm.ev ?_
  unfold spec_l2Ball.f
  have hlen : ((V s).filter (near l u)).length ≤ s.toNat := VF_len
  have h8 := hG.2.1
  refine Cm.bindE (nbs_ev' s l hl h8 hG.1 u) (Cm.bind (l1Put_cm _ u (by omega) (filter_up (V_up _) _) (fun hm => ?_)) (fun r hr => Cm.now ?_))
  · exact (near_in hG (mem_VF.1 hm).2).2.2 rfl
  · refine up_ext hr.1 (filter_up (V_up _) _) (fun x => ?_)
    rw [hr.2.1, mem_VF, mem_VF]
    unfold cl
    rw [Bool.or_eq_true, beq_iff_eq]
    constructor
    · rintro (e | h)
      · rw [e]; exact ⟨hu, .inr rfl⟩
      · exact ⟨h.1, .inl h.2⟩
    · rintro ⟨h1, h2 | h2⟩
      · exact .inr ⟨h1, h2⟩
      · exact .inl h2.symm

/-- y covers x in the set P. -/
def Cov (s : Int) (l : List S65) (P : Int → Bool) (x y : Int) : Prop := x ≠ y ∧ (0 ≤ y ∧ y < s) ∧ P y = true ∧ ∀ b : Int, 0 ≤ b → b < s → cl l x b = true → P b = true → cl l y b = true

theorem covers_cm (s : Int) (l : List S65) (hl : l.length ≤ 1048576) (hG : Gr.Good s l) (L : List Int) (hL : L.length ≤ 1048576) (hm : ∀ x ∈ L, 0 ≤ x ∧ x < s) (P : Int → Bool) (hP : ∀ b : Int, 0 ≤ b → b < s → (b ∈ L ↔ P b = true)) (x y : Int) (hx : 0 ≤ x ∧ x < s) :
    Cm (fun k => spec_l3Covers.f k s l L x y) (fun b => b = true ↔ Cov s l P x y) := by
  unfold spec_l3Covers.f
  have h8 := hG.2.1
  refine Cm.bindE (ball_ev s l hl hG x hx) ?_
  obtain ⟨B, hB⟩ : ∃ B, B = (V s).filter (cl l x) := ⟨_, rfl⟩
  have hlen : B.length ≤ s.toNat := by rw [hB]; exact VF_len
  have hmB : ∀ b, b ∈ B ↔ (0 ≤ b ∧ b < s) ∧ cl l x b = true := fun b => by rw [hB]; exact mem_VF
  rw [← hB]
  clear hB
  refine Cm.up (fun k i (_ : Unit) => spec_l3Covers.l0 k L x y B i s l) B.length (fun i _ => 0 ≤ i ∧ ∀ b ∈ B.take i.toNat, P b = true → cl l y b = true) _ ?_ 0 () (by omega) ⟨by omega, by simp⟩
  rintro i _ hi ⟨h0, ht⟩ ih
  by_cases h : i < B.length
  · have hb := (hmB _).1 (rd_mem B i h0 h)
    have go : (P (rd B i) = true → cl l y (rd B i) = true) → Cm (fun k => spec_l3Covers.l0 k L x y B (i + 1) s l) (fun b => b = true ↔ Cov s l P x y) := fun hg => ih () h ⟨by omega, fun b hb' => by
      rw [take_rd B i h0 h] at hb'
      rcases List.mem_append.1 hb' with hb' | hb'
      · exact ht b hb'
      · rw [List.mem_singleton] at hb'
        rw [hb']
        exact hg⟩
    refine Cm.step (fun k => by simp (disch := omega) only [spec_l3Covers.l0, if_pos h, if_pos h0, w64 (i + 1)]; try rfl) ?_
    refine Cm.bindE (has_ev L (rd B i) hL) (Cm.ite (fun e => ?_) (fun e => ?_))
    · have hPb := (hP _ hb.1.1 hb.1.2).1 (of_decide_eq_true e)
      refine Cm.ite (fun e1 => go (fun _ => by rw [e1]; exact cl_self l y)) (fun e1 => Cm.bindE (near_ev s l (rd B i) y hl) (Cm.ite (fun e2 => go (fun _ => ?_)) (fun e2 => Cm.now ⟨fun h => Bool.noConfusion h, fun hC => ?_⟩)))
      · rw [cl_symm]
        unfold cl
        rw [e2]
        rfl
      · have := hC.2.2.2 (rd B i) hb.1.1 hb.1.2 hb.2 hPb
        rw [cl_symm] at this
        unfold cl at this
        rw [Bool.or_eq_true, beq_iff_eq] at this
        rcases this with h' | h'
        · exact (e2 h').elim
        · exact (e1 h').elim
    · refine go (fun hPb => (e (decide_eq_true ((hP _ hb.1.1 hb.1.2).2 hPb))).elim)
  · have hall : ∀ b ∈ B, P b = true → cl l y b = true := by rw [take_all B i (by omega)] at ht; exact ht
    refine Cm.step (fun k => by simp only [spec_l3Covers.l0, if_neg h]; try rfl) ?_
    refine Cm.ite (fun e => Cm.now ⟨fun h => Bool.noConfusion h, fun hC => (hC.1 e).elim⟩) (fun e => Cm.bindE (has_ev L y hL) (Cm.now ?_))
    rw [decide_eq_true_eq]
    constructor
    · intro hy
      exact ⟨e, hm y hy, (hP y (hm y hy).1 (hm y hy).2).1 hy, fun b b0 b1 hb hPb => hall b ((hmB b).2 ⟨⟨b0, b1⟩, hb⟩) hPb⟩
    · intro hC
      exact (hP y hC.2.1.1 hC.2.1.2).2 hC.2.2.1

open Classical in
/-- The covers of x in P, in order. -/
noncomputable def covs (s : Int) (l : List S65) (P : Int → Bool) (x : Int) : List Int := (V s).filter (fun y => decide (Cov s l P x y))
open Classical in
theorem mem_covs {s : Int} {l : List S65} {P : Int → Bool} {x y : Int} : y ∈ covs s l P x ↔ Cov s l P x y := by
  unfold covs
  rw [mem_VF, decide_eq_true_eq]
  exact ⟨fun h => h.2, fun h => ⟨h.2.1, h⟩⟩
theorem covs_up (s : Int) (l : List S65) (P : Int → Bool) (x : Int) : Up (covs s l P x) := filter_up (V_up _) _
theorem covs_len (s : Int) (l : List S65) (P : Int → Bool) (x : Int) : (covs s l P x).length ≤ s.toNat := VF_len
theorem covs_congr {s : Int} {l : List S65} {P Q : Int → Bool} (h : ∀ b : Int, 0 ≤ b → b < s → P b = Q b) (x : Int) : covs s l P x = covs s l Q x := by
  refine up_ext (covs_up _ _ _ _) (covs_up _ _ _ _) (fun y => ?_)
  rw [mem_covs, mem_covs]
  unfold Cov
  constructor
  · rintro ⟨h1, h2, h3, h4⟩
    exact ⟨h1, h2, by rw [← h y h2.1 h2.2]; exact h3, fun b b0 b1 hc hq => h4 b b0 b1 hc (by rw [h b b0 b1]; exact hq)⟩
  · rintro ⟨h1, h2, h3, h4⟩
    exact ⟨h1, h2, by rw [h y h2.1 h2.2]; exact h3, fun b b0 b1 hc hq => h4 b b0 b1 hc (by rw [← h b b0 b1]; exact hq)⟩

/-- The masks of the net of a graph. -/
def Net (s : Int) (l : List S65) (m : List Int) : Prop := Masks s m ∧ ∀ u v : Int, 0 ≤ u → u < s → 0 ≤ v → v < 8 → bit (rd m u) v = near l u v
theorem closed_eq {s : Int} {l : List S65} {m : List Int} (h : Net s l m) (h8 : s ≤ 8) (x : Int) (hx : 0 ≤ x ∧ x < s) : ∃ c, impl_net_closed.f m x = some c ∧ M8 c ∧ ∀ v : Int, 0 ≤ v → v < 8 → bit c v = cl l x v := by
  have h1 := one_ok x hx.1 (by omega)
  have h2 := or_ok (rd m x) _ (h.1.2 x hx.1 hx.2) h1.1
  have hlen := h.1.1
  refine ⟨Go.bits .or .i64 (rd m x) (shl .i64 1 x), ?_, h2.1, fun v v0 v1 => ?_⟩
  · unfold impl_net_closed.f
    rw [if_pos hx.1, if_pos (by omega)]
  · rw [h2.2 v v0 (by omega), h1.2 v v0 (by omega), h.2 x v hx.1 hx.2 v0 v1]
    unfold cl
    congr 1
    rw [Bool.eq_iff_iff, beq_iff_eq, beq_iff_eq]
    exact eq_comm

/-- A mask that is a set of nodes. -/
def IsM (s : Int) (P : Int → Bool) (m : Int) : Prop := M8 m ∧ ∀ v : Int, 0 ≤ v → v < 8 → bit m v = (decide (v < s) && P v)

theorem covers_impl (s : Int) (l : List S65) (hG : Gr.Good s l) (r : List Int) (hN : Net s l r) (P : Int → Bool) (m : Int) (hM : IsM s P m) (x : Int) (hx : 0 ≤ x ∧ x < s) : Ev (fun k => impl_net_covers.f k r m x) (covs s l P x) := by
  refine Cm.ev ?_
  unfold impl_net_covers.f
  have h8 := hG.2.1
  have h1 := one_ok x hx.1 (by omega)
  have h2 := not_ok m _ hM.1 h1.1
  refine Cm.pos hx.1 (Cm.bindE (setP_ev _ h2.1 s h8 (fun v => P v && !(v == x)) (fun v v0 v1 => by rw [h2.2 v v0 (by omega), hM.2 v v0 v1, h1.2 v v0 (by omega), Bool.and_assoc])) ?_)
  obtain ⟨B, hB⟩ : ∃ B, B = (V s).filter (fun v => P v && !(v == x)) := ⟨_, rfl⟩
  have hlen : B.length ≤ s.toNat := by rw [hB]; exact VF_len
  have hmB : ∀ b, b ∈ B ↔ (0 ≤ b ∧ b < s) ∧ P b = true ∧ b ≠ x := fun b => by rw [hB, mem_VF, Bool.and_eq_true]; simp
  have hup : Up B := by rw [hB]; exact filter_up (V_up _) _
  rw [← hB]
  clear hB
  obtain ⟨cx, ex, hcx, hbx⟩ := closed_eq hN h8 x hx
  have h3 := and_ok cx m hcx hM.1
  have key : ∀ y : Int, y ∈ B → ∃ cy, impl_net_closed.f r y = some cy ∧ (Go.bits .andNot .i64 (Go.bits .and .i64 cx m) cy = 0 ↔ Cov s l P x y) := fun y hy => by
    have hy' := (hmB y).1 hy
    obtain ⟨cy, ey, hcy, hby⟩ := closed_eq hN h8 y hy'.1
    have h4 := not_ok _ cy h3.1 hcy
    refine ⟨cy, ey, ?_⟩
    constructor
    · intro e
      refine ⟨fun e => hy'.2.2 e.symm, hy'.1, hy'.2.1, fun b b0 b1 hb hPb => ?_⟩
      have := h4.2 b b0 (by omega)
      rw [e, zero_ok.2 b b0 (by omega), h3.2 b b0 (by omega), hbx b b0 (by omega), hM.2 b b0 (by omega), hb, hPb, decide_eq_true b1, hby b b0 (by omega)] at this
      simpa using this
    · intro hC
      refine mask_ext _ _ h4.1 zero_ok.1 (fun b b0 b1 => ?_)
      rw [h4.2 b b0 (by omega), h3.2 b b0 (by omega), hbx b b0 b1, hM.2 b b0 b1, hby b b0 b1, zero_ok.2 b b0 (by omega)]
      by_cases hbs : b < s
      · by_cases hb : cl l x b = true
        · by_cases hPb : P b = true
          · rw [hC.2.2.2 b b0 hbs hb hPb]; simp
          · rw [Bool.eq_false_iff.2 hPb]; simp
        · rw [Bool.eq_false_iff.2 hb]; simp
      · rw [decide_eq_false hbs]; simp
  refine Cm.up (fun k i a => impl_net_covers.l0 k m x a B B.length i r) B.length (fun i a => 0 ≤ i ∧ (a.length : Int) ≤ i ∧ Up a ∧ ∀ y, y ∈ a ↔ y ∈ B.take i.toNat ∧ Cov s l P x y) _ ?_ 0 [] (by omega) ⟨by omega, by simp, List.Pairwise.nil, by simp⟩
  rintro i a hi ⟨h0, hal, hau, ham⟩ ih
  by_cases h : i < B.length
  · obtain ⟨cy, ey, hcy⟩ := key _ (rd_mem B i h0 h)
    by_cases e : Go.bits .andNot .i64 (Go.bits .and .i64 cx m) cy = 0
    · refine Cm.step (fun k => by simp (disch := omega) only [impl_net_covers.l0, if_pos h, if_pos h0, ex, ey, Option.bind_some, if_pos e, w64 (i + 1), if_pos]; try rfl) (ih _ h ⟨by omega, by rw [List.length_append, List.length_singleton]; omega, ?_, fun y => ?_⟩)
      · refine List.pairwise_append.2 ⟨hau, List.pairwise_singleton _ _, fun b hb c hc => ?_⟩
        rw [List.mem_singleton] at hc
        subst hc
        have := ((ham b).1 hb).1
        obtain ⟨j, hj, hje⟩ := List.mem_iff_getElem.1 this
        rw [List.getElem_take] at hje
        rw [List.length_take] at hj
        rw [← hje, ← rd_eq B j (by omega)]
        exact up_rd hup j i (by omega) (by omega) h
      · rw [List.mem_append, List.mem_singleton, ham, take_rd B i h0 h, List.mem_append, List.mem_singleton]
        constructor
        · rintro (⟨h5, h6⟩ | h5)
          · exact ⟨.inl h5, h6⟩
          · rw [h5]; exact ⟨.inr rfl, hcy.1 e⟩
        · rintro ⟨h5 | h5, h6⟩
          · exact .inl ⟨h5, h6⟩
          · exact .inr h5
    · refine Cm.step (fun k => by simp (disch := omega) only [impl_net_covers.l0, if_pos h, if_pos h0, ex, ey, Option.bind_some, if_neg e, w64 (i + 1)]; try rfl) (ih _ h ⟨by omega, by omega, hau, fun y => ?_⟩)
      rw [ham, take_rd B i h0 h, List.mem_append, List.mem_singleton]
      constructor
      · rintro ⟨h5, h6⟩
        exact ⟨.inl h5, h6⟩
      · rintro ⟨h5 | h5, h6⟩
        · exact ⟨h5, h6⟩
        · rw [h5] at h6; exact (e (hcy.2 h6)).elim
  · refine Cm.step (fun k => by simp only [impl_net_covers.l0, if_neg h]; try rfl) (Cm.now ?_)
    refine up_ext hau (covs_up _ _ _ _) (fun y => ?_)
    rw [ham, mem_covs, take_all B i (by omega), hmB]
    exact ⟨fun h => h.2, fun h => ⟨⟨h.2.1, h.2.2.1, fun e => h.1 e.symm⟩, h⟩⟩

end Go.Proofs.Yteepmbpmhaaonaa.Gr
