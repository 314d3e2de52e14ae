/- A list that has each node once, by both tests; no conditions beyond those that each theorem names. -/
import Derived.Test.YtbnhckhbjoldcaaGrWi
import Derived.Test.YtbnhckhbjoldcaaPxImplIsOrder
import Derived.Test.YtbnhckhbjoldcaaPxSpecL2Each
namespace Go.Proofs.Ytbnhckhbjoldcaa.Gr
open Go.RowKit Go.Proofs.Ytbnhckhbjoldcaa.P Go.Proofs.YtbnhckhbjoldcaaW.PrintWords Go.Proofs.YtbnhckhbjoldcaaW.PrintLast Go.Proofs.YtbnhckhbjoldcaaW.PrintMore

/-- Each node once. -/
def Each (s : Int) (L : List Int) : Prop := (L.length : Int) = s ∧ ∀ x : Int, 0 ≤ x → x < s → x ∈ L
theorem each_in {s : Int} {L : List Int} (h : Each s L) (x : Int) (hx : x ∈ L) : 0 ≤ x ∧ x < s :=
  mem_V.1 (sub_all (V_nodup s) (fun y hy => h.2 y (mem_V.1 hy).1 (mem_V.1 hy).2) (by rw [V_len]; have := h.1; omega) x hx)

theorem each_inj {s : Int} {L : List Int} (h : Each s L) (i j : Int) (hi0 : 0 ≤ i) (hi : i < s) (hj0 : 0 ≤ j) (hj : j < s) (e : rd L i = rd L j) : i = j := by
  have hex : ∀ y : Int, ∃ i : Int, 0 ≤ y → y < s → (0 ≤ i ∧ i < s) ∧ rd L i = y := fun y => by
    by_cases hy : 0 ≤ y ∧ y < s
    · obtain ⟨i, h0, h1, h2⟩ := mem_rd (h.2 y hy.1 hy.2)
      exact ⟨i, fun _ _ => ⟨⟨h0, by have := h.1; omega⟩, h2⟩⟩
    · exact ⟨0, fun h0 h1 => (hy ⟨h0, h1⟩).elim⟩
  obtain ⟨F, hF⟩ := Classical.axiomOfChoice hex
  have hn : ((V s).map F).Nodup := by
    refine List.pairwise_map.2 (List.Pairwise.imp_of_mem (fun {a b} ha hb hab => ?_) (V_nodup s))
    intro he
    have h1 := (hF a (mem_V.1 ha).1 (mem_V.1 ha).2).2
    have h2 := (hF b (mem_V.1 hb).1 (mem_V.1 hb).2).2
    rw [he, h2] at h1
    exact hab h1.symm
  have hsub : ∀ x ∈ (V s).map F, x ∈ V s := fun x hx => by
    obtain ⟨a, ha, rfl⟩ := List.mem_map.1 hx
    exact mem_V.2 (hF a (mem_V.1 ha).1 (mem_V.1 ha).2).1
  have hall := sub_all hn hsub (by rw [List.length_map]; exact Nat.le_refl _)
  obtain ⟨a, ha, rfl⟩ := List.mem_map.1 (hall i (mem_V.2 ⟨hi0, hi⟩))
  obtain ⟨b, hb, rfl⟩ := List.mem_map.1 (hall j (mem_V.2 ⟨hj0, hj⟩))
  rw [(hF a (mem_V.1 ha).1 (mem_V.1 ha).2).2, (hF b (mem_V.1 hb).1 (mem_V.1 hb).2).2] at e
  rw [e]

theorem each_cm (s : Int) (l : List S82) (L : List Int) (hl : L.length ≤ 1048576) (hs0 : 0 ≤ s) (hs : s ≤ 8) : Cm (fun k => spec_l2Each.f k s l L) (fun b => b = true ↔ Each s L) := by
  unfold spec_l2Each.f
  refine Cm.up (fun k i (_ : Unit) => spec_l2Each.l0 k L i s l) s (fun i _ => 0 ≤ i ∧ ∀ x : Int, 0 ≤ x → x < i → x ∈ L) _ ?_ 0 () (by omega) ⟨by omega, fun x h0 h1 => by omega⟩
  rintro i _ hi ⟨h0, ht⟩ ih
  by_cases h : i < s
  · refine Cm.step (fun k => by simp (disch := omega) only [spec_l2Each.l0, if_pos h, w64 (i + 1)]; try rfl) (Cm.bindE (has_ev L i hl) ?_)
    by_cases e : i ∈ L
    · refine Cm.pos (decide_eq_true e) (ih () h ⟨by omega, fun x h1 h2 => ?_⟩)
      by_cases ex : x = i
      · subst ex; exact e
      · exact ht x h1 (by omega)
    · exact Cm.neg (by simpa using e) (Cm.now ⟨fun h => Bool.noConfusion h, fun hE => (e (hE.2 i h0 h)).elim⟩)
  · refine Cm.step (fun k => by simp only [spec_l2Each.l0, if_neg h]; try rfl) (Cm.now ?_)
    rw [beq_iff_eq]
    exact ⟨fun hL => ⟨hL, fun x h0 h1 => ht x h0 (by omega)⟩, fun hE => hE.1⟩

theorem order_cm (s : Int) (l : List S82) (L : List Int) (hl : L.length ≤ 1048576) (hs0 : 0 ≤ s) (hs : s ≤ 8) : Cm (fun k => impl_isOrder.f k s l L) (fun b => b = true ↔ Each s L) := by
  unfold impl_isOrder.f
  rw [w64 (s - 1) (by omega) (by omega)]
  refine Cm.ite (fun hL => Cm.bind (allIn_ev L 0 (s - 1) hl) (fun b hb => Cm.ite (fun e => ?_) (fun e => Cm.now ⟨fun h => Bool.noConfusion h, fun hE => (e (hb.2 (fun x hx => by have := each_in hE x hx; omega))).elim⟩))) (fun hL => Cm.now ⟨fun h => Bool.noConfusion h, fun hE => (hL hE.1).elim⟩)
  have hin := hb.1 e
  refine Cm.bind (mask_cm L hl (fun x hx => by have := hin x hx; omega)) (fun m hm => Cm.pos hs0 (Cm.now ?_))
  have hf := full_ok s hs0 hs
  rw [beq_iff_eq]
  constructor
  · intro he
    refine ⟨hL, fun x h0 h1 => ?_⟩
    have := hm.2 x h0 (by omega)
    rw [he, hf.2 x h0 (by omega), decide_eq_true h1] at this
    exact of_decide_eq_true this.symm
  · intro hE
    refine mask_ext _ _ hm.1 hf.1 (fun v h0 h1 => ?_)
    rw [hm.2 v h0 (by omega), hf.2 v h0 (by omega), decide_eq_decide]
    exact ⟨fun hv => (each_in hE v hv).2, fun hv => hE.2 v h0 hv⟩

end Go.Proofs.Ytbnhckhbjoldcaa.Gr
