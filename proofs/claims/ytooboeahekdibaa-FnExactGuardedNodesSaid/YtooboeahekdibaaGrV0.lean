/- Balls, by both; no conditions beyond those that each theorem names. -/
import Derived.Test.YtooboeahekdibaaGrK
import Derived.Test.YtooboeahekdibaaGrG
import Derived.Test.YtooboeahekdibaaGrQ
import Derived.Test.YtooboeahekdibaaPx0
import Derived.Test.YtooboeahekdibaaPxSpecL1Put
import Derived.Test.YtooboeahekdibaaPxSpecL2Ball
import Derived.Test.YtooboeahekdibaaPxSpecL2Neighbors
namespace Go.Proofs.Ytooboeahekdibaa.Gr
open Go.RowKit Go.Proofs.Ytooboeahekdibaa.P Go.Proofs.YtooboeahekdibaaW.PrintWords Go.Proofs.YtooboeahekdibaaW.PrintLast Go.Proofs.YtooboeahekdibaaW.PrintMore

theorem l1Put_cm (l : List Int) (e : Int) (hl : l.length ≤ 1048577) (hu : Up l) (he : e ∉ l) : Cm (fun k => spec_l1Put.f k l e) (fun r => Up r ∧ (∀ x, x ∈ r ↔ x = e ∨ x ∈ l) ∧ r.length = l.length + 1) := by
  have hput : ¬ putAt l e = true := fun h => he (by
    have h := of_decide_eq_true h
    exact (List.dropWhile_sublist _).subset (List.mem_of_mem_head? h))
  unfold spec_l1Put.f
  refine Cm.neg hput ?_
  unfold spec_l1PutN.f
  have fin : ∀ i : Int, 0 ≤ i → i ≤ l.length → (∀ x ∈ l.take i.toNat, x < e) → (∀ x ∈ l.drop i.toNat, e < x) → Up (l.take i.toNat ++ [e] ++ l.drop i.toNat) ∧ (∀ x, x ∈ l.take i.toNat ++ [e] ++ l.drop i.toNat ↔ x = e ∨ x ∈ l) ∧ (l.take i.toNat ++ [e] ++ l.drop i.toNat).length = l.length + 1 := by
    intro i h0 h1 ht hd
    have hs : l.take i.toNat ++ l.drop i.toNat = l := List.take_append_drop _ _
    have hu' := hu
    rw [← hs] at hu'
    have hp := List.pairwise_append.1 hu'
    refine ⟨?_, fun x => ?_, ?_⟩
    · refine List.pairwise_append.2 ⟨List.pairwise_append.2 ⟨hp.1, List.pairwise_singleton _ _, fun a ha b hb => ?_⟩, hp.2.1, fun a ha b hb => ?_⟩
      · rw [List.mem_singleton] at hb
        subst hb
        exact ht a ha
      · rcases List.mem_append.1 ha with ha | ha
        · exact hp.2.2 a ha b hb
        · rw [List.mem_singleton] at ha
          subst ha
          exact hd b hb
    · rw [List.mem_append, List.mem_append, List.mem_singleton]
      constructor
      · rintro ((h | h) | h)
        · exact .inr (List.mem_of_mem_take h)
        · exact .inl h
        · exact .inr (List.mem_of_mem_drop h)
      · rintro (h | h)
        · exact .inl (.inr h)
        · rw [← hs] at h
          rcases List.mem_append.1 h with h | h
          · exact .inl (.inl h)
          · exact .inr h
    · rw [List.length_append, List.length_append, List.length_take, List.length_drop, List.length_singleton]
      omega
  refine Cm.up (fun k i (_ : Unit) => spec_l1PutN.l0 k l e i) l.length (fun i _ => 0 ≤ i ∧ ∀ x ∈ l.take i.toNat, x < e) _ ?_ 0 () (by omega) ⟨by omega, fun x hx => by cases hx⟩
  rintro i _ hi ⟨h0, ht⟩ ih
  by_cases h : i < l.length
  · have hne : rd l i ≠ e := fun e' => he (e' ▸ rd_mem l i h0 h)
    by_cases hb : rd l i < e
    · refine Cm.step (fun k => by simp (disch := omega) only [spec_l1PutN.l0, w64 (i + 1), if_pos]; try rfl) (ih () h ⟨by omega, ?_⟩)
      rw [take_rd l i h0 h]
      intro x hx
      rcases List.mem_append.1 hx with hx | hx
      · exact ht x hx
      · rw [List.mem_singleton] at hx
        subst hx
        exact hb
    · have hd : ∀ x ∈ l.drop i.toNat, e < x := by
        intro x hx
        obtain ⟨j, hj, rfl⟩ := List.mem_iff_getElem.1 hx
        rw [List.getElem_drop]
        have hr := rd_eq l i.toNat (by omega)
        rw [Int.toNat_of_nonneg h0] at hr
        by_cases hj0 : j = 0
        · subst hj0
          simp only [Nat.add_zero]
          rw [← hr]
          omega
        · rw [List.length_drop] at hj
          have := List.pairwise_iff_getElem.1 hu i.toNat (i.toNat + j) (by omega) (by omega) (by omega)
          rw [← hr] at this
          omega
      have hF := fin i h0 (by omega) ht hd
      refine Cm.step (fun k => by simp (disch := omega) only [spec_l1PutN.l0, if_pos h, if_pos h0, if_neg hb, if_neg hne, Option.bind_some, List.nil_append, List.length_nil, Nat.zero_add, List.length_append, List.length_take, List.length_drop, List.length_singleton, if_pos]; try rfl) (Cm.now hF)
  · have e1 : l.take i.toNat = l := take_all l i (by omega)
    have hd : ∀ x ∈ l.drop i.toNat, e < x := by
      rw [List.drop_eq_nil_of_le (by omega)]
      intro x hx
      cases hx
    have hF := fin i h0 (by omega) ht hd
    refine Cm.step (fun k => by simp (disch := omega) only [spec_l1PutN.l0, Option.bind_some, if_neg h, if_pos h0, List.nil_append, List.length_nil, Nat.zero_add, List.length_append, List.length_take, List.length_drop, List.length_singleton, if_pos]; try rfl) (Cm.now hF)

theorem nbs_ev' (s : Int) (l : List S59) (hl : l.length ≤ 1048576) (h8 : s ≤ 8) (h0 : 0 ≤ s) (u : Int) : Ev (fun k => spec_l2Neighbors.f k s l u) ((V s).filter (near l u)) := by
  refine Cm.ev ?_
  unfold spec_l2Neighbors.f
  refine Cm.up (fun k i a => spec_l2Neighbors.l0 k u a i s l) s (fun i a => 0 ≤ i ∧ a = (V i).filter (near l u)) _ ?_ 0 [] (by omega) ⟨by omega, rfl⟩
  rintro i a hi ⟨i0, rfl⟩ ih
  have hlen : ((V i).filter (near l u)).length ≤ i.toNat := VF_len
  by_cases h : i < s
  · refine Cm.step (fun k => by simp (disch := omega) only [spec_l2Neighbors.l0, if_pos h, w64 (i + 1)]; try rfl) ?_
    refine Cm.bindE (near_ev s l u i hl) (Cm.ite (fun e => Cm.pos (by omega) (ih _ h ⟨by omega, ?_⟩)) (fun e => ih _ h ⟨by omega, ?_⟩))
    · rw [VF_succ i0, if_pos e]
    · rw [VF_succ i0, if_neg e, List.append_nil]
  · refine Cm.step (fun k => by simp only [spec_l2Neighbors.l0, if_neg h]; try rfl) (Cm.now ?_)
    rw [show i = s by omega]

/-- Near, or the same. -/
def cl (l : List S59) (u v : Int) : Bool := near l u v || u == v
theorem cl_symm (l : List S59) (u v : Int) : cl l u v = cl l v u := by
  unfold cl
  rw [near_symm l u v, Bool.eq_iff_iff, Bool.or_eq_true, Bool.or_eq_true, beq_iff_eq, beq_iff_eq]
  exact or_congr Iff.rfl eq_comm
theorem cl_self (l : List S59) (u : Int) : cl l u u = true := by unfold cl; simp
theorem cl_out {s : Int} {l : List S59} (hG : Gr.Good s l) {u v : Int} (hu : 0 ≤ u ∧ u < s) (h : cl l u v = true) : 0 ≤ v ∧ v < s := by
  unfold cl at h
  rw [Bool.or_eq_true, beq_iff_eq] at h
  rcases h with h | h
  · exact (near_in hG h).2.1
  · exact h ▸ hu
theorem ball_ev (s : Int) (l : List S59) (hl : l.length ≤ 1048576) (hG : Gr.Good s l) (u : Int) (hu : 0 ≤ u ∧ u < s) : Ev (fun k => spec_l2Ball.f k s l u) ((V s).filter (cl l u)) := by
  refine Cm.ev ?_
  unfold spec_l2Ball.f
  have hlen : ((V s).filter (near l u)).length ≤ s.toNat := VF_len
  have h8 := hG.2.1
  refine Cm.bindE (nbs_ev' s l hl h8 hG.1 u) (Cm.bind (l1Put_cm _ u (by omega) (filter_up (V_up _) _) (fun hm => ?_)) (fun r hr => Cm.now ?_))
  · exact (near_in hG (mem_VF.1 hm).2).2.2 rfl
  · refine up_ext hr.1 (filter_up (V_up _) _) (fun x => ?_)
    rw [hr.2.1, mem_VF, mem_VF]
    unfold cl
    rw [Bool.or_eq_true, beq_iff_eq]
    constructor
    · rintro (e | h)
      · rw [e]; exact ⟨hu, .inr rfl⟩
      · exact ⟨h.1, .inl h.2⟩
    · rintro ⟨h1, h2 | h2⟩
      · exact .inr ⟨h1, h2⟩
      · exact .inl h2.symm

/-- The masks of the net of a graph. -/
def Net (s : Int) (l : List S59) (m : List Int) : Prop := Masks s m ∧ ∀ u v : Int, 0 ≤ u → u < s → 0 ≤ v → v < 8 → bit (rd m u) v = near l u v
/-- A mask that is a set of nodes. -/
def IsM (s : Int) (P : Int → Bool) (m : Int) : Prop := M8 m ∧ ∀ v : Int, 0 ≤ v → v < 8 → bit m v = (decide (v < s) && P v)

end Go.Proofs.Ytooboeahekdibaa.Gr
