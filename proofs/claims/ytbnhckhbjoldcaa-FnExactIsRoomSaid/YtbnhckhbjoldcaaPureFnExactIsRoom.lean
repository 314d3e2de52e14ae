/- The pure law FnExactIsRoom: both ask for a set without a corner onto which a list retracts. -/
import Derived.Test.YtbnhckhbjoldcaaGrF
import Derived.Test.YtbnhckhbjoldcaaGrO
import Derived.Test.YtbnhckhbjoldcaaGrRt
import Derived.Test.YtbnhckhbjoldcaaGrZ
import Derived.Test.YtbnhckhbjoldcaaPxImplIsRoom
import Derived.Test.YtbnhckhbjoldcaaPxLawsFnExactIsRoom
import Derived.Test.YtbnhckhbjoldcaaPxSpecIsRoom
namespace Go.Proofs.Ytbnhckhbjoldcaa.Pure
open Go.RowKit Go.Proofs.Ytbnhckhbjoldcaa.P Go.Proofs.YtbnhckhbjoldcaaW.PrintWords Go.Proofs.YtbnhckhbjoldcaaW.PrintLast Go.Proofs.YtbnhckhbjoldcaaW.PrintMore Go.Proofs.Ytbnhckhbjoldcaa.Gr

/-- A set of two nodes or more without a corner, onto which T retracts. -/
def Room (s : Int) (l : List S82) (L T : List Int) : Prop := 2 ≤ (L.length : Int) ∧ Ret s l T ∧ (∀ x, x ∈ T ↔ x ∈ L) ∧ corn s l (inL L) = []

theorem ret_mem {s : Int} {l : List S82} {T : List Int} (h : Ret s l T) {x : Int} (hx : x ∈ T) : (0 ≤ x ∧ x < s) ∧ rd T x = x := by
  obtain ⟨i, i0, i1, e⟩ := mem_rd hx
  have := h.2.1 i i0 (by have := h.1; omega)
  rw [e] at this
  exact this

open Classical in
theorem room_spec (s : Int) (l : List S82) (L T : List Int) (hl : l.length ≤ 1048576) (hL : L.length ≤ 1048576) (hG : Gr.Good s l) (hset : IsSet s L) (hS : Ev (fun k => spec_l3Both.f k s l L) true) : Ev (fun k => spec_IsRoom.f k s l L T) (decide (Room s l L T), true) := by
  refine Cm.ev ?_
  unfold spec_IsRoom.f
  have h8 := hG.2.1
  have hno : ¬ Room s l L T → Cm (fun k => spec_IsRoom.j0 k L T true) (fun x => x = (decide (Room s l L T), true)) := fun hn => Cm.step (fun k => by simp only [spec_IsRoom.j0, if_true]; try rfl) (Cm.now (by rw [decide_eq_false hn]))
  refine Cm.bindE hS (Cm.pos rfl ?_)
  obtain ⟨r, hr, e1, _⟩ := ret_both s l T hl hG
  refine Cm.bindE e1 (Cm.ite (fun c => ?_) (fun c => hno (fun h => c (hr.2 h.2.1))))
  refine Cm.ite (fun c2 => hno (fun h => by have := h.1; omega)) (fun c2 => ?_)
  have hR := hr.1 c
  have hTl := hR.1
  have hc1 := corners_spec s l hl hG (inL L)
  rw [← set_filter hset] at hc1
  refine Cm.bindE hc1 ?_
  by_cases c3 : ((corn s l (inL L)).length : Int) > 0
  · rw [decide_eq_true c3]
    exact hno (fun h => by rw [h.2.2.2] at c3; simp at c3)
  · rw [decide_eq_false c3]
    have hcn : corn s l (inL L) = [] := List.length_eq_zero_iff.1 (by omega)
    refine Cm.step (fun k => by simp only [spec_IsRoom.j0, Bool.false_eq_true, if_false]; try rfl) ?_
    refine Cm.up (fun k i (_ : Unit) => spec_IsRoom.l0 k L T i) T.length (fun i _ => 0 ≤ i ∧ ∀ x ∈ T.take i.toNat, x ∈ L) _ ?_ 0 () (by omega) ⟨by omega, by simp⟩
    rintro i _ hi ⟨i0, ht⟩ ih
    by_cases h : i < (T.length : Int)
    · refine Cm.step (fun k => by simp (disch := omega) only [spec_IsRoom.l0, if_pos h, if_pos i0, w64 (i + 1)]; try rfl) ?_
      refine Cm.bindE (has_ev L (rd T i) hL) (Cm.ite (fun e => ih () h ⟨by omega, fun x hx => ?_⟩) (fun e => Cm.now (by rw [decide_eq_false (fun hR => e (decide_eq_true ((hR.2.2.1 _).1 (rd_mem T i i0 h))))])))
      rw [take_rd T i i0 h] at hx
      rcases List.mem_append.1 hx with hx | hx
      · exact ht x hx
      · rw [List.mem_singleton] at hx
        rw [hx]
        exact of_decide_eq_true e
    · have hall : ∀ x ∈ T, x ∈ L := by rw [take_all T i (by omega)] at ht; exact ht
      refine Cm.step (fun k => by simp only [spec_IsRoom.l0, if_neg h]; try rfl) ?_
      refine Cm.up (fun k i (_ : Unit) => spec_IsRoom.l1 k L T i) L.length (fun i _ => 0 ≤ i ∧ ∀ x ∈ L.take i.toNat, rd T x = x) _ ?_ 0 () (by omega) ⟨by omega, by simp⟩
      rintro i _ hi ⟨i0, hu⟩ ih
      by_cases h : i < (L.length : Int)
      · have hx := hset.1 _ (rd_mem L i i0 h)
        refine Cm.step (fun k => by simp (disch := omega) only [spec_IsRoom.l1, if_pos h, if_pos i0, w64 (i + 1)]; try rfl) ?_
        refine Cm.pos hx.1 (Cm.pos (by omega) (Cm.ite (fun e => ih () h ⟨by omega, fun x hx => ?_⟩) (fun e => Cm.now ?_)))
        · rw [take_rd L i i0 h] at hx
          rcases List.mem_append.1 hx with hx | hx
          · exact hu x hx
          · rw [List.mem_singleton] at hx
            rw [hx]
            exact e
        · rw [decide_eq_false (fun hR' => e (ret_mem hR ((hR'.2.2.1 _).2 (rd_mem L i i0 h))).2)]
      · have hst : ∀ x ∈ L, rd T x = x := by rw [take_all L i (by omega)] at hu; exact hu
        refine Cm.step (fun k => by simp only [spec_IsRoom.l1, if_neg h]; try rfl) (Cm.now ?_)
        rw [decide_eq_true (show Room s l L T from ⟨by omega, hR, fun x => ⟨hall x, fun hx => ?_⟩, hcn⟩)]
        have := rd_mem T x (hset.1 x hx).1 (by have := (hset.1 x hx).2; omega)
        rw [hst x hx] at this
        exact this

open Classical in
theorem room_impl (s : Int) (l : List S82) (L T : List Int) (hl : l.length ≤ 1048576) (hL : L.length ≤ 1048576) (hG : Gr.Good s l) (hset : IsSet s L) (hI : Ev (fun k => impl_isSet.f k s l L) true) : Ev (fun k => impl_IsRoom.f k s l L T) (decide (Room s l L T), true) := by
  refine Cm.ev ?_
  unfold impl_IsRoom.f
  have h8 := hG.2.1
  refine Cm.bindE hI (Cm.pos rfl ?_)
  refine Cm.ite (fun c2 => ?_) (fun c2 => Cm.now (by rw [decide_eq_false (fun h => by have := h.1; omega)]))
  obtain ⟨r, hr, _, e1⟩ := ret_both s l T hl hG
  refine Cm.bindE e1 (Cm.ite (fun c => ?_) (fun c => Cm.now (by rw [decide_eq_false (fun h => c (hr.2 h.2.1))])))
  have hR := hr.1 c
  have hTl := hR.1
  obtain ⟨MT, eT, hT1, hT2⟩ := mask_cm T (by omega) (fun y hy => by have := (ret_mem hR hy).1; omega)
  obtain ⟨ML, eL, hL1, hL2⟩ := mask_cm L hL (fun y hy => by have := hset.1 y hy; omega)
  refine Cm.bindE eT (Cm.bindE eL (Cm.ite (fun e => ?_) (fun e => Cm.now ?_)))
  · obtain ⟨m, hm, hbit, hN⟩ := net_ev s l hl hG
    refine Cm.bindE hN (Cm.bindE eL (Cm.bindE (corners_impl s l hG m ⟨hm, hbit⟩ (inL L) ML (mask_set hset hL1 hL2)) (Cm.now ?_)))
    congr 1
    rw [Bool.eq_iff_iff, decide_eq_true_eq, beq_iff_eq]
    constructor
    · intro h
      refine ⟨by omega, hR, fun x => ⟨fun hx => ?_, fun hx => ?_⟩, List.length_eq_zero_iff.1 (by omega)⟩
      · have hb := (ret_mem hR hx).1
        have := hT2 x hb.1 (by omega)
        rw [e, hL2 x hb.1 (by omega), decide_eq_decide] at this
        exact this.2 hx
      · have hb := hset.1 x hx
        have := hT2 x hb.1 (by omega)
        rw [e, hL2 x hb.1 (by omega), decide_eq_decide] at this
        exact this.1 hx
    · intro h
      rw [h.2.2.2]
      rfl
  · rw [decide_eq_false (fun h => e (mask_ext MT ML hT1 hL1 (fun v v0 v1 => ?_)))]
    rw [hT2 v v0 (by omega), hL2 v v0 (by omega), decide_eq_decide]
    exact h.2.2.1 v

theorem both (s : Int) (l : List S82) (L T : List Int) (hl : l.length ≤ 1048576) (hL : L.length ≤ 1048576) (_ : T.length ≤ 1048576) : ∃ r b, Ev (fun k => spec_IsRoom.f k s l L T) (r, b) ∧ Ev (fun k => impl_IsRoom.f k s l L T) (r, b) := by
  obtain ⟨b, hb, hS, hI⟩ := both_sets s l L hl hL
  cases b with
  | false => exact ⟨false, false, Cm.ev (Cm.bindE hS (Cm.neg (by decide) (Cm.now rfl))), Cm.ev (Cm.bindE hI (Cm.neg (by decide) (Cm.now rfl)))⟩
  | true =>
    obtain ⟨hG, hO, hset⟩ := hb rfl
    exact ⟨_, true, room_spec s l L T hl hL hG hset hS, room_impl s l L T hl hL hG hset hI⟩

theorem FnExactIsRoom : laws_FnExactIsRoom.Pure := by
  intro s0 l0 L1 L2 hs0 hl0 hx0 hm1 hw1 hm2 hw2
  refine Ev.rounds (Cm.ev ?_)
  unfold laws_FnExactIsRoom.f
  refine Cm.ite (fun _ => Cm.now rfl) (fun cL1 => ?_)
  refine Cm.ite (fun _ => Cm.now rfl) (fun cL2 => ?_)
  by_cases c0 : (1048576 : Int) - l0.length < 0
  · exact Cm.bindE (sz_ev (sz_big s0 l0 hl0 c0)) (Cm.pos (by decide) (Cm.now rfl))
  refine Cm.bindE (sz_ev (sz_small s0 l0 (by omega))) (Cm.neg c0 ?_)
  obtain ⟨r, b, E1, E2⟩ := both s0 l0 L1 L2 (by omega) (by omega) (by omega)
  have a_b : ¬ (b != b) = true := by cases b <;> decide
  have a_r : ¬ (r != r) = true := by cases r <;> decide
  repeat first
    | with_reducible exact Cm.now rfl
    | refine Cm.bindE (toGraph_ev s0 l0 (by omega)) ?_
    | refine Cm.bindE (toI_ev L1 (by omega)) ?_
    | refine Cm.bindE (toI_ev L2 (by omega)) ?_
    | refine Cm.bindE E1 ?_
    | refine Cm.bindE E2 ?_
    | refine Cm.bindE (eqGraph_ev s0 l0 (by omega)) (Cm.pos rfl ?_)
    | refine Cm.bindE (eqI_ev L1 (by omega)) (Cm.pos rfl ?_)
    | refine Cm.bindE (eqI_ev L2 (by omega)) (Cm.pos rfl ?_)
    | refine Cm.neg a_b ?_
    | refine Cm.neg a_r ?_
    | refine Cm.neg (by omega) ?_
    | refine Cm.pos (by omega) ?_
    | refine Cm.pos rfl ?_
    | dsimp only

end Go.Proofs.Ytbnhckhbjoldcaa.Pure
