/- The pure law FnExactIsDismantling: both ask of an order of all nodes whether each node but the last has a cover among those that come after it. -/
import Derived.Test.YtbnhckhbjoldcaaGrVc
import Derived.Test.YtbnhckhbjoldcaaGrRw
import Derived.Test.YtbnhckhbjoldcaaGrY
import Derived.Test.YtbnhckhbjoldcaaGrSo
import Derived.Test.YtbnhckhbjoldcaaGrZ
import Derived.Test.YtbnhckhbjoldcaaPxImplIsDismantling
import Derived.Test.YtbnhckhbjoldcaaPxLawsFnExactIsDismantling
import Derived.Test.YtbnhckhbjoldcaaPxSpecIsDismantling
namespace Go.Proofs.Ytbnhckhbjoldcaa.Pure
open Go.RowKit Go.Proofs.Ytbnhckhbjoldcaa.P Go.Proofs.YtbnhckhbjoldcaaW.PrintWords Go.Proofs.YtbnhckhbjoldcaaW.PrintLast Go.Proofs.YtbnhckhbjoldcaaW.PrintMore Go.Proofs.Ytbnhckhbjoldcaa.Gr

/-- What stands in T from i on. -/
def D (T : List Int) (i v : Int) : Bool := decide (v ∈ T.drop i.toNat)
/-- An order of all nodes; each but the last has a cover among those from it on. -/
def Dis (s : Int) (l : List S82) (T : List Int) : Prop := Each s T ∧ ∀ j : Int, 0 ≤ j → j + 1 < s → covs s l (D T j) (rd T j) ≠ []

theorem drop_at (T : List Int) (i : Int) (h0 : 0 ≤ i) (h1 : i < T.length) : T.drop i.toNat = rd T i :: T.drop (i + 1).toNat := by
  have e := rd_eq T i.toNat (by omega)
  rw [Int.toNat_of_nonneg h0] at e
  rw [List.drop_eq_getElem_cons (by omega), e, show (i + 1).toNat = i.toNat + 1 by omega]
theorem drop_in {T : List Int} {i v : Int} (h0 : 0 ≤ i) (h : v ∈ T.drop i.toNat) : ∃ j : Int, i ≤ j ∧ j < T.length ∧ rd T j = v := by
  obtain ⟨j, hj, e⟩ := List.mem_iff_getElem.1 h
  rw [List.length_drop] at hj
  rw [List.getElem_drop] at e
  refine ⟨((i.toNat + j : Nat) : Int), by omega, by omega, ?_⟩
  rw [rd_eq T (i.toNat + j) (by omega)]
  exact e
theorem D_next {s : Int} {T : List Int} (hE : Each s T) (i : Int) (h0 : 0 ≤ i) (h1 : i < s) (v : Int) : without (D T i) (rd T i) v = D T (i + 1) v := by
  have hl := hE.1
  unfold without D
  rw [drop_at T i h0 (by omega), Bool.eq_iff_iff, Bool.and_eq_true, decide_eq_true_eq, decide_eq_true_eq, Bool.not_eq_true', beq_eq_false_iff_ne]
  constructor
  · rintro ⟨h2, h3⟩
    exact (List.mem_cons.1 h2).resolve_left h3
  · intro h2
    refine ⟨List.mem_cons_of_mem _ h2, fun e => ?_⟩
    obtain ⟨j, j0, j1, ej⟩ := drop_in (by omega) h2
    have := each_inj hE j i (by omega) (by omega) h0 h1 (ej.trans e)
    omega
theorem nil_of {s : Int} {l : List S82} {P : Int → Bool} {x : Int} (h : (covs s l P x).headD (-1) < 0) : covs s l P x = [] := by
  cases hc : covs s l P x with
  | nil => rfl
  | cons y t =>
    have hC := mem_covs.1 (show y ∈ covs s l P x by rw [hc]; exact List.mem_cons_self)
    rw [hc] at h
    have := hC.2.1.1
    rw [show (y :: t).headD (-1) = y from rfl] at h
    omega

open Classical in
theorem order_spec (s : Int) (l : List S82) (T : List Int) (hl : l.length ≤ 1048576) (hT : T.length ≤ 1048576) (hG : Gr.Good s l) (hs : 0 < s) : Ev (fun k => spec_l3Order.f k s l T) (decide (Dis s l T)) := by
  refine Cm.ev ?_
  unfold spec_l3Order.f
  have h8 := hG.2.1
  have h0 := hG.1
  refine Cm.bindE (all_ev s l h0 h8) (Cm.bind (each_cm s l T hT h0 h8) ?_)
  intro b hb
  refine Cm.ite (fun e => ?_) (fun e => Cm.now (by rw [decide_eq_false (fun h => e (hb.2 h.1))]))
  have hE := hb.1 e
  have hTl := hE.1
  refine Cm.up (fun k i a => spec_l3Order.l0 k T a i s l) (s - 1) (fun i a => 0 ≤ i ∧ a = (V s).filter (D T i) ∧ ∀ j : Int, 0 ≤ j → j < i → covs s l (D T j) (rd T j) ≠ []) _ ?_ 0 _ (by omega) ⟨by omega, VF_congr (fun x x0 x1 => (decide_eq_true (hE.2 x x0 x1)).symm), fun j a b => by omega⟩
  rintro i a hi ⟨i0, rfl, hd⟩ ih
  have hml : ∀ b, b ∈ (V s).filter (D T i) ↔ (0 ≤ b ∧ b < s) ∧ D T i b = true := fun b => mem_VF
  have hlen : ((V s).filter (D T i)).length ≤ s.toNat := VF_len
  by_cases h : i < s - 1
  · have hx := each_in hE _ (rd_mem T i i0 (by omega))
    refine Cm.step (fun k => by simp (disch := omega) only [spec_l3Order.l0, w64 (i + 1), if_pos (show i + 1 < (T.length : Int) by omega), if_pos i0, if_pos (show i < (T.length : Int) by omega)]; try rfl) ?_
    refine Cm.bindE (cover_ev s l hl hG _ (by omega) (filter_up (V_up _) _) (fun x hx => ((hml x).1 hx).1) (D T i) (fun b b0 b1 => by rw [hml]; exact ⟨fun h => h.2, fun h => ⟨⟨b0, b1⟩, h⟩⟩) (rd T i) hx) (Cm.ite (fun e => Cm.now ?_) (fun e => ?_))
    · rw [decide_eq_false (fun hD => hD.2 i i0 (by omega) (nil_of e))]
    · refine Cm.bindE (without_ev s (rd T i) (D T i) h8) (ih _ h ⟨by omega, VF_congr (fun x _ _ => D_next hE i i0 (by omega) x), fun j j0 j1 => ?_⟩)
      by_cases hj : j < i
      · exact hd j j0 hj
      · rw [show j = i by omega]
        intro hn
        rw [hn] at e
        exact e (by decide)
  · refine Cm.step (fun k => by simp (disch := omega) only [spec_l3Order.l0, w64 (i + 1), if_neg (show ¬ i + 1 < (T.length : Int) by omega)]; try rfl) (Cm.now ?_)
    rw [decide_eq_true (show Dis s l T from ⟨hE, fun j j0 j1 => hd j j0 (by omega)⟩)]

open Classical in
theorem loop_impl (s : Int) (l : List S82) (T : List Int) (hG : Gr.Good s l) (hs : 0 < s) (hE : Each s T) (m : List Int) (hm : Net s l m) : Ev (fun k => impl_IsDismantling.l0 k T (T.take (s - 1).toNat) ((T.take (s - 1).toNat).length : Int) 0 m) (decide (Dis s l T), true) := by
  have h8 := hG.2.1
  have hTl := hE.1
  obtain ⟨A, hA⟩ : ∃ A, A = T.take (s - 1).toNat := ⟨_, rfl⟩
  have hAl : (A.length : Int) = s - 1 := by rw [hA, List.length_take]; omega
  have hrd : ∀ i : Int, 0 ≤ i → i < s - 1 → rd A i = rd T i := fun i i0 i1 => by
    have e1 := rd_eq A i.toNat (by omega)
    have e2 := rd_eq T i.toNat (by omega)
    rw [Int.toNat_of_nonneg i0] at e1 e2
    rw [e1, e2]
    subst hA
    rw [List.getElem_take]
  rw [← hA]
  refine Cm.ev (Cm.up (fun k i (_ : Unit) => impl_IsDismantling.l0 k T A A.length i m) (s - 1) (fun i _ => 0 ≤ i ∧ ∀ j : Int, 0 ≤ j → j < i → covs s l (D T j) (rd T j) ≠ []) _ ?_ 0 () (by omega) ⟨by omega, fun j a b => by omega⟩)
  rintro i _ hi ⟨i0, hd⟩ ih
  by_cases h : i < s - 1
  · have hx := each_in hE _ (rd_mem T i i0 (by omega))
    obtain ⟨M, eM, hM1, hM2⟩ := mask_cm (T.drop i.toNat) (by rw [List.length_drop]; omega) (fun y hy => by have := each_in hE y (List.mem_of_mem_drop hy); omega)
    have hIs : IsM s (D T i) M := ⟨hM1, fun v v0 v1 => by
      rw [hM2 v v0 (by omega)]
      unfold D
      by_cases hv : v < s
      · rw [decide_eq_true hv, Bool.true_and]
      · rw [decide_eq_false hv, Bool.false_and, decide_eq_false (fun hc => hv (each_in hE v (List.mem_of_mem_drop hc)).2)]⟩
    refine Cm.step (fun k => by simp (disch := omega) only [impl_IsDismantling.l0, if_pos (show i < (A.length : Int) by omega), if_pos i0, if_pos (show i ≤ (T.length : Int) by omega), w64 (i + 1), hrd i i0 h]; try rfl) ?_
    refine Cm.bindE eM (Cm.bindE (covers_impl s l hG m hm (D T i) M hIs (rd T i) hx) (Cm.ite (fun e => Cm.now ?_) (fun e => ih () h ⟨by omega, fun j j0 j1 => ?_⟩)))
    · rw [decide_eq_false (fun hD => hD.2 i i0 (by omega) (List.length_eq_zero_iff.1 (by omega)))]
    · by_cases hj : j < i
      · exact hd j j0 hj
      · rw [show j = i by omega]
        intro hn
        rw [hn] at e
        exact e rfl
  · refine Cm.step (fun k => by simp only [impl_IsDismantling.l0, if_neg (show ¬ i < (A.length : Int) by omega)]; try rfl) (Cm.now ?_)
    rw [decide_eq_true (show Dis s l T from ⟨hE, fun j j0 j1 => hd j j0 (by omega)⟩)]

open Classical in
theorem both (s : Int) (l : List S82) (T : List Int) (hl : l.length ≤ 1048576) (hT : T.length ≤ 1048576) : ∃ r b, Ev (fun k => spec_IsDismantling.f k s l T) (r, b) ∧ Ev (fun k => impl_IsDismantling.f k s l T) (r, b) := by
  obtain ⟨b, hb, hS, hI⟩ := isGraph_full s l hl
  have hSo := some_ev s l b hS
  have iJ : Cm (fun k => impl_IsDismantling.j0 k T true s l) (fun z => z = (false, false)) := Cm.step (fun k => by simp only [impl_IsDismantling.j0, if_true]; try rfl) (Cm.now rfl)
  by_cases hc : b = true ∧ s > 0
  · obtain ⟨rfl, hs⟩ := hc
    obtain ⟨hG, hO⟩ := hb rfl
    have h8 := hG.2.1
    have h0 := hG.1
    rw [Bool.true_and, decide_eq_true hs] at hSo
    have hz : (s == 0) = false := by rw [beq_eq_false_iff_ne]; omega
    refine ⟨decide (Dis s l T), true, Cm.ev (Cm.bindE hSo (Cm.pos rfl (Cm.bindE (order_spec s l T hl hT hG hs) (Cm.now rfl)))), Cm.ev (Cm.bindE hI (Cm.pos rfl ?_))⟩
    rw [hz]
    refine Cm.step (fun k => by simp only [impl_IsDismantling.j0, Bool.false_eq_true, if_false, w64 (s - 1) (by omega) (by omega)]; try rfl) ?_
    refine Cm.bind (order_cm s l T hT h0 h8) ?_
    intro c hcE
    refine Cm.ite (fun e => ?_) (fun e => Cm.now (by rw [decide_eq_false (fun h => e (hcE.2 h.1))]))
    have hE := hcE.1 e
    have hTl := hE.1
    obtain ⟨m, hm, hbit, hN⟩ := net_ev s l hl hG
    exact Cm.bindE hN (Cm.pos (by omega) (Cm.pos (by omega) (Ev.cm (loop_impl s l T hG hs hE m ⟨hm, hbit⟩))))
  · have hf : (b && decide (s > 0)) = false := by
      rw [Bool.and_eq_false_iff]
      by_cases hb' : b = true
      · exact .inr (decide_eq_false (fun h => hc ⟨hb', h⟩))
      · exact .inl (Bool.eq_false_iff.2 hb')
    rw [hf] at hSo
    refine ⟨false, false, Cm.ev ?_, Cm.ev ?_⟩
    · exact Cm.bindE hSo (Cm.neg (by decide) (Cm.now rfl))
    · refine Cm.bindE hI (Cm.ite (fun e => ?_) (fun _ => iJ))
      have hz : (s == 0) = true := by rw [beq_iff_eq]; have := (hb e).1.1; have h5 : ¬ s > 0 := fun h => hc ⟨e, h⟩; omega
      rw [hz]
      exact iJ

theorem FnExactIsDismantling : laws_FnExactIsDismantling.Pure := by
  intro s0 l0 L1 hs0 hl0 hx0 hm1 hw1
  refine Ev.rounds (Cm.ev ?_)
  unfold laws_FnExactIsDismantling.f
  refine Cm.ite (fun _ => Cm.now rfl) (fun cL1 => ?_)
  by_cases c0 : (1048576 : Int) - l0.length < 0
  · exact Cm.bindE (sz_ev (sz_big s0 l0 hl0 c0)) (Cm.pos (by decide) (Cm.now rfl))
  refine Cm.bindE (sz_ev (sz_small s0 l0 (by omega))) (Cm.neg c0 ?_)
  obtain ⟨r, b, E1, E2⟩ := both s0 l0 L1 (by omega) (by omega)
  have a_b : ¬ (b != b) = true := by cases b <;> decide
  have a_r : ¬ (r != r) = true := by cases r <;> decide
  repeat first
    | with_reducible exact Cm.now rfl
    | refine Cm.bindE (toGraph_ev s0 l0 (by omega)) ?_
    | refine Cm.bindE (toI_ev L1 (by omega)) ?_
    | refine Cm.bindE E1 ?_
    | refine Cm.bindE E2 ?_
    | refine Cm.bindE (eqGraph_ev s0 l0 (by omega)) (Cm.pos rfl ?_)
    | refine Cm.bindE (eqI_ev L1 (by omega)) (Cm.pos rfl ?_)
    | refine Cm.neg a_b ?_
    | refine Cm.neg a_r ?_
    | refine Cm.neg (by omega) ?_
    | refine Cm.pos (by omega) ?_
    | refine Cm.pos rfl ?_
    | dsimp only

end Go.Proofs.Ytbnhckhbjoldcaa.Pure
