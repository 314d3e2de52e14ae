/- The pure law FnExactPartsOf: both list the parts of all nodes. -/
import Derived.Test.YtbnhckhbjoldcaaGrPa
import Derived.Test.YtbnhckhbjoldcaaGrRb
import Derived.Test.YtbnhckhbjoldcaaGrRS
import Derived.Test.YtbnhckhbjoldcaaGrBm
import Derived.Test.YtbnhckhbjoldcaaPxImplPartsOf
import Derived.Test.YtbnhckhbjoldcaaPxLawsFnExactPartsOf
import Derived.Test.YtbnhckhbjoldcaaPxSpecPartsOf
namespace Go.Proofs.Ytbnhckhbjoldcaa.Pure
open Go.RowKit Go.Proofs.Ytbnhckhbjoldcaa.P Go.Proofs.YtbnhckhbjoldcaaW.PrintWords Go.Proofs.YtbnhckhbjoldcaaW.PrintLast Go.Proofs.YtbnhckhbjoldcaaW.PrintMore Go.Proofs.Ytbnhckhbjoldcaa.Gr

theorem part_form (s : Int) (l : List S82) : ∀ (n : Nat) (P : Int → Bool) (x : List Int), x ∈ partsF s l n P → ∃ Q : Int → Bool, x = (V s).filter Q := by
  intro n
  induction n with
  | zero => intro P x h; cases h
  | succ n ih =>
    intro P x h
    cases e : (V s).filter P with
    | nil => rw [partsF_nil e] at h; cases h
    | cons y t =>
      rw [partsF_cons e] at h
      rcases List.mem_cons.1 h with h | h
      · exact ⟨_, h⟩
      · exact ih _ _ h

theorem list_ev (s : Int) (h8 : s ≤ 8) (a : List Int) (B : List (List Int)) (hT : Tells s a B) (hn : a.length ≤ 8) (hB : ∀ x ∈ B, ∃ Q : Int → Bool, x = (V s).filter Q) : Cm (fun k => impl_PartsOf.l0 k [] a (a.length : Int) 0) (fun z => z = (B, true)) := by
  refine Cm.up (fun k i (x : List (List Int)) => impl_PartsOf.l0 k x a (a.length : Int) i) (a.length : Int) (fun i x => 0 ≤ i ∧ x = B.take i.toNat) _ ?_ 0 [] (by omega) ⟨by omega, rfl⟩
  rintro i x hi ⟨i0, rfl⟩ ih
  by_cases hc : i < (a.length : Int)
  · have hbl : i.toNat < B.length := by rw [← hT.1]; omega
    obtain ⟨h1, h2⟩ := hT.2 i.toNat (by omega)
    obtain ⟨Q, hQ⟩ := hB (B[i.toNat]) (List.getElem_mem _)
    have hg : B.getD i.toNat [] = B[i.toNat] := by rw [List.getD_eq_getElem?_getD, List.getElem?_eq_getElem hbl]; rfl
    have hset := setP_ev (a.getD i.toNat 0) h1 s h8 (fun v => decide (v ∈ B.getD i.toNat [])) h2
    have hf : (V s).filter (fun v => decide (v ∈ B.getD i.toNat [])) = B[i.toNat] := by
      rw [hg, hQ]
      refine List.filter_congr (fun v hv => ?_)
      rw [Bool.eq_iff_iff, decide_eq_true_iff, List.mem_filter]
      exact ⟨fun h => h.2, fun h => ⟨hv, h⟩⟩
    rw [hf] at hset
    have hrd : rd a i = a.getD i.toNat 0 := rfl
    have hlen : (B.take i.toNat).length < 5864062014805 := by rw [List.length_take]; omega
    refine Cm.step (fun k => by simp (disch := omega) only [impl_PartsOf.l0, if_pos hc, if_pos i0, hrd, if_pos hlen, w64 (i + 1)]; try rfl) ?_
    refine Cm.bindE hset (ih _ hc ⟨by omega, ?_⟩)
    rw [show (i + 1).toNat = i.toNat + 1 by omega, List.take_add_one, List.getElem?_eq_getElem hbl]
    rfl
  · refine Cm.step (fun k => by simp only [impl_PartsOf.l0, if_neg hc]; try rfl) (Cm.now ?_)
    rw [List.take_of_length_le (by rw [← hT.1]; omega)]

theorem both (s : Int) (l : List S82) (hl : l.length ≤ 1048576) : ∃ es b, es.length ≤ 1048576 ∧ (∀ x ∈ es, List.length x ≤ 1024) ∧ Ev (fun k => spec_PartsOf.f k s l) (es, b) ∧ Ev (fun k => impl_PartsOf.f k s l) (es, b) := by
  obtain ⟨b, hb, hS, hI⟩ := isGraph_full s l hl
  cases b with
  | false => exact ⟨[], false, by simp, by simp, Cm.ev (Cm.bindE hS (Cm.neg (by decide) (Cm.now rfl))), Cm.ev (Cm.bindE hI (Cm.neg (by decide) (Cm.now rfl)))⟩
  | true =>
    obtain ⟨hG, hO⟩ := hb rfl
    have h8 := hG.2.1
    have h0 := hG.1
    obtain ⟨m, hm, hbit, hN⟩ := net_ev s l hl hG
    have hlen : ((V s).filter (fun _ => true)).length ≤ s.toNat := VF_len
    obtain ⟨a, hT, hal, e2⟩ := parts_impl s l hG m ⟨hm, hbit⟩ 8 (fun _ => true) _ [] (by omega) (mask_all h0 h8) (by simp)
    have e1 := parts_spec s l hl hG (fun _ => true) 8 (by omega)
    rw [List.nil_append] at e2
    refine ⟨partsF s l 8 (fun _ => true), true, by rw [← hT.1]; omega, ?_, Cm.ev (Cm.bindE hS (Cm.pos rfl (Cm.bindE (all_ev s l h0 h8) (Cm.bindE e1 (Cm.now rfl))))), Cm.ev (Cm.bindE hI (Cm.pos rfl (Cm.bindE hN (Cm.pos h0 (Cm.bindE e2 (list_ev s h8 a _ hT hal (part_form s l 8 _)))))))⟩
    intro x hx
    obtain ⟨Q, rfl⟩ := part_form s l 8 _ x hx
    have : ((V s).filter Q).length ≤ s.toNat := VF_len
    omega

theorem FnExactPartsOf : laws_FnExactPartsOf.Pure := by
  intro s0 l0 hs0 hl0 hx0
  refine Ev.rounds (Cm.ev ?_)
  unfold laws_FnExactPartsOf.f
  by_cases c0 : (1048576 : Int) - l0.length < 0
  · exact Cm.bindE (sz_ev (sz_big s0 l0 hl0 c0)) (Cm.pos (by decide) (Cm.now rfl))
  refine Cm.bindE (sz_ev (sz_small s0 l0 (by omega))) (Cm.neg c0 ?_)
  obtain ⟨es, b, he, hr, E1, E2⟩ := both s0 l0 (by omega)
  obtain ⟨r0, M0⟩ := mark_at s0 l0 ((1 : Int)) (by omega) (by omega) (by omega)
  obtain ⟨re, te, E3, E4⟩ := mark_heldSS es (by omega) hr
  have a_b : ¬ (b != b) = true := by cases b <;> decide
  repeat first
    | with_reducible exact Cm.now rfl
    | refine Cm.bindE (toGraph_ev s0 l0 (by omega)) ?_
    | refine Cm.bindE E1 ?_
    | refine Cm.bindE E2 ?_
    | refine Cm.bindE (eqSS_ev es (by omega) hr) (Cm.pos rfl ?_)
    | refine Cm.bindE (eqGraph_ev s0 l0 (by omega)) (Cm.pos rfl ?_)
    | refine Cm.bindE M0 ?_
    | refine Cm.bindE E3 ?_
    | refine Cm.bindE E4 ?_
    | refine Cm.neg a_b ?_
    | refine Cm.neg (by omega) ?_
    | refine Cm.pos (by omega) ?_
    | refine Cm.pos rfl ?_
    | dsimp only

end Go.Proofs.Ytbnhckhbjoldcaa.Pure
