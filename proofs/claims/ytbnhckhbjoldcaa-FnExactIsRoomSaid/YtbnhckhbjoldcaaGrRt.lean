/- Retractions, by both; no conditions beyond those that each theorem names. -/
import Derived.Test.YtbnhckhbjoldcaaGrV
import Derived.Test.YtbnhckhbjoldcaaGrH
import Derived.Test.YtbnhckhbjoldcaaPxImplIsRetraction
import Derived.Test.YtbnhckhbjoldcaaPxSpecL3Retracts
namespace Go.Proofs.Ytbnhckhbjoldcaa.Gr
open Go.RowKit Go.Proofs.Ytbnhckhbjoldcaa.P Go.Proofs.YtbnhckhbjoldcaaW.PrintWords Go.Proofs.YtbnhckhbjoldcaaW.PrintLast Go.Proofs.YtbnhckhbjoldcaaW.PrintMore

theorem bit_no (m v : Int) (h : M8 m) (v0 : 0 ≤ v) (hv : v < 64) : Go.bits .and .i64 (shr .i64 m v) 1 = 0 ↔ bit m v = false := by
  obtain ⟨a, rfl⟩ : ∃ a : Nat, m = a := ⟨m.toNat, by omega⟩
  obtain ⟨b, rfl⟩ : ∃ b : Nat, v = b := ⟨v.toNat, by omega⟩
  unfold bit shr
  rw [show IntKind.i64.bits = 64 from rfl, Int.toNat_natCast, Nat.min_eq_left (by omega)]
  have e : (a : Int) / 2 ^ b = ((a / 2 ^ b : Nat) : Int) := by norm_cast
  rw [e]
  have := (bits_n (a / 2 ^ b) 1 (Nat.lt_of_le_of_lt (Nat.div_le_self _ _) (by omega)) (by decide)).1
  rw [show ((1 : Nat) : Int) = 1 from rfl] at this
  rw [this, Nat.and_one_is_mod, beq_eq_false_iff_ne]
  omega

/-- T maps the nodes to nodes that stay, and near ones to near ones or to one. -/
def Ret (s : Int) (l : List S82) (T : List Int) : Prop := (T.length : Int) = s ∧ (∀ i : Int, 0 ≤ i → i < s → (0 ≤ rd T i ∧ rd T i < s) ∧ rd T (rd T i) = rd T i) ∧ ∀ u v : Int, near l u v = true → cl l (rd T u) (rd T v) = true

theorem ret_spec (s : Int) (l : List S82) (T : List Int) (hl : l.length ≤ 1048576) (hG : Gr.Good s l) : Cm (fun k => spec_l3Retracts.f k s l T) (fun b => b = true ↔ Ret s l T) := by
  unfold spec_l3Retracts.f
  have h8 := hG.2.1
  have h0 := hG.1
  refine Cm.ite (fun e => ?_) (fun e => Cm.now ⟨fun h => Bool.noConfusion h, fun h => (e h.1).elim⟩)
  refine Cm.up (fun k i (_ : Unit) => spec_l3Retracts.l0 k T i s l) s (fun i _ => 0 ≤ i ∧ ∀ j : Int, 0 ≤ j → j < i → (0 ≤ rd T j ∧ rd T j < s) ∧ rd T (rd T j) = rd T j) _ ?_ 0 () h0 ⟨by omega, fun j a b => by omega⟩
  rintro i _ hi ⟨i0, ht⟩ ih
  by_cases h : i < (T.length : Int)
  · refine Cm.step (fun k => by simp (disch := omega) only [spec_l3Retracts.l0, if_pos h, if_pos i0, w64 (i + 1), node_eq s l (rd T i) hG, Option.bind_some, decide_eq_true_eq]; try rfl) ?_
    refine Cm.ite (fun c => Cm.pos c.1 (Cm.pos (by omega) (Cm.ite (fun c2 => ih () (by omega) ⟨by omega, fun j j0 j1 => ?_⟩) (fun c2 => Cm.now ⟨fun h => Bool.noConfusion h, fun hR => (c2 (hR.2.1 i i0 (by omega)).2).elim⟩)))) (fun c => Cm.now ⟨fun h => Bool.noConfusion h, fun hR => (c (hR.2.1 i i0 (by omega)).1).elim⟩)
    by_cases hj : j < i
    · exact ht j j0 hj
    · rw [show j = i by omega]
      exact ⟨c, c2⟩
  · have ht' : ∀ j : Int, 0 ≤ j → j < s → (0 ≤ rd T j ∧ rd T j < s) ∧ rd T (rd T j) = rd T j := fun j j0 j1 => ht j j0 (by omega)
    refine Cm.step (fun k => by simp only [spec_l3Retracts.l0, if_neg h]; try rfl) ?_
    refine Cm.up (fun k i (_ : Unit) => spec_l3Retracts.l1 k T i s l) l.length (fun i _ => 0 ≤ i ∧ ∀ j : Int, 0 ≤ j → j < i → cl l (rd T (rd_T82 l j).f0) (rd T (rd_T82 l j).f1) = true) _ ?_ 0 () (by omega) ⟨by omega, fun j a b => by omega⟩
    rintro i _ hi ⟨i0, hu⟩ ih
    by_cases h : i < (l.length : Int)
    · have hg := hG.2.2 i i0 h
      have go : cl l (rd T (rd_T82 l i).f0) (rd T (rd_T82 l i).f1) = true → Cm (fun k => spec_l3Retracts.l1 k T (i + 1) s l) (fun b => b = true ↔ Ret s l T) := fun hc => ih () h ⟨by omega, fun j j0 j1 => by
        by_cases hj : j < i
        · exact hu j j0 hj
        · rw [show j = i by omega]
          exact hc⟩
      refine Cm.step (fun k => by simp (disch := omega) only [spec_l3Retracts.l1, if_pos h, if_pos i0, w64 (i + 1)]; try rfl) ?_
      refine Cm.pos (by omega) (Cm.pos (by omega) (Cm.pos (by omega) (Cm.pos (by omega) ?_)))
      refine Cm.ite (fun c => go (by rw [c]; exact cl_self l _)) (fun c => Cm.bindE (near_ev s l _ _ hl) (Cm.ite (fun c2 => go (by unfold cl; rw [c2]; rfl)) (fun c2 => Cm.now ⟨fun h => Bool.noConfusion h, fun hR => ?_⟩)))
      have := hR.2.2 (rd_T82 l i).f0 (rd_T82 l i).f1 ((near_iff l _ _).2 (.inl (rdT_mem l i i0 h)))
      unfold cl at this
      rw [Bool.or_eq_true, beq_iff_eq] at this
      exact this.elim (fun h => (c2 h).elim) (fun h => (c h).elim)
    · refine Cm.step (fun k => by simp only [spec_l3Retracts.l1, if_neg h]; try rfl) (Cm.now ⟨fun _ => ⟨e, ht', fun u v huv => ?_⟩, fun _ => rfl⟩)
      rcases (near_iff l u v).1 huv with m | m
      · obtain ⟨j, j0, j1, ej⟩ := mem_rdT m
        have := hu j j0 (by omega)
        rw [ej] at this
        exact this
      · obtain ⟨j, j0, j1, ej⟩ := mem_rdT m
        have := hu j j0 (by omega)
        rw [ej] at this
        rw [cl_symm]
        exact this

theorem ret_impl (s : Int) (l : List S82) (T : List Int) (hl : l.length ≤ 1048576) (hG : Gr.Good s l) : Cm (fun k => impl_isRetraction.f k s l T) (fun b => b = true ↔ Ret s l T) := by
  unfold impl_isRetraction.f
  have h8 := hG.2.1
  have h0 := hG.1
  refine Cm.ite (fun e => ?_) (fun e => Cm.step (fun k => by simp only [impl_isRetraction.j0, if_true]; try rfl) (Cm.now ⟨fun h => Bool.noConfusion h, fun h => (e h.1).elim⟩))
  rw [w64 (s - 1) (by omega) (by omega)]
  refine Cm.bind (allIn_ev T 0 (s - 1) (by omega)) ?_
  intro b hb
  cases b with
  | false =>
    refine Cm.step (fun k => by simp only [impl_isRetraction.j0, Bool.not_false, if_true]; try rfl) (Cm.now ⟨fun h => Bool.noConfusion h, fun hR => ?_⟩)
    exact Bool.noConfusion (hb.2 (fun x hx => by obtain ⟨i, i0, i1, ei⟩ := mem_rd hx; have := (hR.2.1 i i0 (by omega)).1; omega))
  | true =>
    have hin : ∀ i : Int, 0 ≤ i → i < s → 0 ≤ rd T i ∧ rd T i < s := fun i i0 i1 => by have := hb.1 rfl _ (rd_mem T i i0 (by omega)); omega
    refine Cm.step (fun k => by simp only [impl_isRetraction.j0, Bool.not_true, Bool.false_eq_true, if_false]; try rfl) ?_
    obtain ⟨m, hm, hbit, hN⟩ := net_ev s l hl hG
    have hml := hm.1
    refine Cm.bindE hN ?_
    refine Cm.up (fun k i (_ : Unit) => impl_isRetraction.l0 k T T T.length i m) s (fun i _ => 0 ≤ i ∧ ∀ j : Int, 0 ≤ j → j < i → rd T (rd T j) = rd T j ∧ ∀ v : Int, 0 ≤ v → v < s → near l j v = true → cl l (rd T j) (rd T v) = true) _ ?_ 0 () h0 ⟨by omega, fun j a b => by omega⟩
    rintro i _ hi ⟨i0, ht⟩ ih
    by_cases h : i < (T.length : Int)
    · have hr := hin i i0 (by omega)
      refine Cm.step (fun k => by simp (disch := omega) only [impl_isRetraction.l0, if_pos h, if_pos i0]; try rfl) ?_
      refine Cm.pos hr.1 (Cm.pos (by omega) (Cm.ite (fun c => Cm.pos (by omega) ?_) (fun c => Cm.now ⟨fun h => Bool.noConfusion h, fun hR => (c (hR.2.1 i i0 (by omega)).2).elim⟩)))
      refine Cm.bindE (setP_ev (rd m i) (hm.2 i i0 (by omega)) s h8 (near l i) (fun v v0 v1 => ?_)) ?_
      · rw [hbit i v i0 (by omega) v0 v1]
        by_cases hv : v < s
        · rw [decide_eq_true hv, Bool.true_and]
        · rw [near_out s l hG i v (by omega), Bool.and_false]
      obtain ⟨c8, ec, hcM, hcb⟩ := closed_eq ⟨hm, hbit⟩ h8 (rd T i) hr
      obtain ⟨B, hB⟩ : ∃ B, B = (V s).filter (near l i) := ⟨_, rfl⟩
      have hlen : B.length ≤ s.toNat := by rw [hB]; exact VF_len
      have hmB : ∀ b, b ∈ B ↔ (0 ≤ b ∧ b < s) ∧ near l i b = true := fun b => by rw [hB]; exact mem_VF
      rw [← hB]
      clear hB
      refine Cm.up (fun k j (_ : Unit) => impl_isRetraction.l1 k T (rd T i) T T.length i B B.length j m) B.length (fun j _ => 0 ≤ j ∧ ∀ z ∈ B.take j.toNat, cl l (rd T i) (rd T z) = true) _ ?_ 0 () (by omega) ⟨by omega, by simp⟩
      rintro j _ hj ⟨j0, hz⟩ ih2
      by_cases h2 : j < (B.length : Int)
      · have hz2 := (hmB _).1 (rd_mem B j j0 h2)
        have hr2 := hin (rd B j) hz2.1.1 hz2.1.2
        refine Cm.step (fun k => by simp (disch := omega) only [impl_isRetraction.l1, if_pos h2, if_pos j0, ec, Option.bind_some, w64 (j + 1)]; try rfl) ?_
        refine Cm.pos hz2.1.1 (Cm.pos (by omega) (Cm.pos hr2.1 (Cm.ite (fun c3 => Cm.now ⟨fun h => Bool.noConfusion h, fun hR => ?_⟩) (fun c3 => ih2 () h2 ⟨by omega, fun z hz' => ?_⟩))))
        · have h5 := hR.2.2 i (rd B j) hz2.2
          rw [bit_no c8 _ hcM hr2.1 (by omega), hcb _ hr2.1 (by omega), h5] at c3
          exact Bool.noConfusion c3
        · rw [take_rd B j j0 h2] at hz'
          rcases List.mem_append.1 hz' with hz' | hz'
          · exact hz z hz'
          · rw [List.mem_singleton] at hz'
            rw [hz']
            rw [bit_no c8 _ hcM hr2.1 (by omega), hcb _ hr2.1 (by omega)] at c3
            simpa using c3
      · have hall : ∀ z ∈ B, cl l (rd T i) (rd T z) = true := by rw [take_all B j (by omega)] at hz; exact hz
        refine Cm.step (fun k => by simp (disch := omega) only [impl_isRetraction.l1, if_neg h2, w64 (i + 1)]; try rfl) (ih () (by omega) ⟨by omega, fun j j0 j1 => ?_⟩)
        by_cases hji : j < i
        · exact ht j j0 hji
        · rw [show j = i by omega]
          exact ⟨c, fun v v0 v1 hv => hall v ((hmB v).2 ⟨⟨v0, v1⟩, hv⟩)⟩
    · refine Cm.step (fun k => by simp only [impl_isRetraction.l0, if_neg h]; try rfl) (Cm.now ⟨fun _ => ⟨e, fun i i0 i1 => ⟨hin i i0 i1, (ht i i0 (by omega)).1⟩, fun u v huv => ?_⟩, fun _ => rfl⟩)
      have hu := near_in hG huv
      exact (ht u hu.1.1 (by omega)).2 v hu.2.1.1 hu.2.1.2 huv

/-- Both tell the same. -/
theorem ret_both (s : Int) (l : List S82) (T : List Int) (hl : l.length ≤ 1048576) (hG : Gr.Good s l) : ∃ b, (b = true ↔ Ret s l T) ∧ Ev (fun k => spec_l3Retracts.f k s l T) b ∧ Ev (fun k => impl_isRetraction.f k s l T) b := by
  obtain ⟨b, e, h⟩ := ret_spec s l T hl hG
  obtain ⟨b', e', h'⟩ := ret_impl s l T hl hG
  have : b' = b := by rw [Bool.eq_iff_iff]; exact h'.trans h.symm
  exact ⟨b, h, e, this ▸ e'⟩

end Go.Proofs.Ytbnhckhbjoldcaa.Gr
