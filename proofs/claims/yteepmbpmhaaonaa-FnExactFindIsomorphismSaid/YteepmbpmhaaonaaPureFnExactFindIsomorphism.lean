/- The pure law FnExactFindIsomorphism: both lay the images of the nodes one by one, the least that fits first; where the numbers of pairs differ nothing fits. -/
import Derived.Test.YteepmbpmhaaonaaGrX
import Derived.Test.YteepmbpmhaaonaaGrW
import Derived.Test.YteepmbpmhaaonaaGrQ
import Derived.Test.YteepmbpmhaaonaaGrCt
import Derived.Test.YteepmbpmhaaonaaGrZ
import Derived.Test.YteepmbpmhaaonaaGrJ
import Derived.Test.YteepmbpmhaaonaaGrB
import Derived.Test.YteepmbpmhaaonaaPxImplFindIsomorphism
import Derived.Test.YteepmbpmhaaonaaPxImplNetIsomorphism
import Derived.Test.YteepmbpmhaaonaaPxLawsFnExactFindIsomorphism
import Derived.Test.YteepmbpmhaaonaaPxSpecFindIsomorphism
import Derived.Test.YteepmbpmhaaonaaPxSpecL2Match
namespace Go.Proofs.Yteepmbpmhaaonaa.Pure
open Go.RowKit Go.Proofs.Yteepmbpmhaaonaa.P Go.Proofs.YteepmbpmhaaonaaW.PrintWords Go.Proofs.YteepmbpmhaaonaaW.PrintLast Go.Proofs.YteepmbpmhaaonaaW.PrintMore Go.Proofs.Yteepmbpmhaaonaa.Gr

/-- The masks of the net of a graph. -/
def Net (s : Int) (l : List S65) (m : List Int) : Prop := Masks s m ∧ ∀ u v : Int, 0 ≤ u → u < s → 0 ≤ v → v < 8 → bit (rd m u) v = near l u v

theorem rd_app (a : List Int) (v : Int) (j : Int) (j0 : 0 ≤ j) : rd (a ++ [v]) j = if j = a.length then v else rd a j := by
  unfold rd
  rw [List.getD_eq_getElem?_getD, List.getD_eq_getElem?_getD]
  by_cases h : j < a.length
  · rw [if_neg (by omega), List.getElem?_append_left (by omega)]
  · by_cases e : j = a.length
    · rw [if_pos e, List.getElem?_append_right (by omega), show j.toNat - a.length = 0 by omega]
      rfl
    · rw [if_neg e, List.getElem?_append_right (by omega), List.getElem?_eq_none (by simp; omega), List.getElem?_eq_none (by omega)]

/-- The images of the first nodes. -/
def Part (s : Int) (l l' : List S65) (T : List Int) : Prop := (∀ x ∈ T, 0 ≤ x ∧ x < s) ∧ T.Nodup ∧ ∀ j k : Int, 0 ≤ j → j < k → k < T.length → near l j k = near l' (rd T j) (rd T k)
/-- y fits as the next. -/
def Fit (l l' : List S65) (T : List Int) (y : Int) : Prop := y ∉ T ∧ ∀ j : Int, 0 ≤ j → j < T.length → near l j T.length = near l' (rd T j) y

theorem part_app {s : Int} {l l' : List S65} {T : List Int} {y : Int} (h : Part s l l' T) (hy : 0 ≤ y ∧ y < s) (hf : Fit l l' T y) : Part s l l' (T ++ [y]) := by
  refine ⟨fun x hx => ?_, ?_, fun j k j0 jk hk => ?_⟩
  · rcases List.mem_append.1 hx with e | e
    · exact h.1 x e
    · rw [List.mem_singleton] at e
      rw [e]
      exact hy
  · exact List.nodup_append.2 ⟨h.2.1, List.nodup_cons.2 ⟨by simp, List.nodup_nil⟩, fun a ha b hb e => hf.1 (by rw [List.mem_singleton] at hb; rw [← hb, ← e]; exact ha)⟩
  · rw [List.length_append, List.length_singleton] at hk
    rw [rd_app T y j j0, rd_app T y k (by omega), if_neg (by omega)]
    by_cases e : k = T.length
    · rw [if_pos e, e]
      exact hf.2 j j0 (by omega)
    · rw [if_neg e]
      exact h.2.2 j k j0 jk (by omega)

theorem spec_fit (s : Int) (l l' : List S65) (hl : l.length ≤ 1048576) (hl' : l'.length ≤ 1048576) (h8 : s ≤ 8) (T : List Int) (hT : (T.length : Int) < s) (y : Int) (hy : 0 ≤ y ∧ y < s) (Q : List Int × Bool → Prop)
    (hP : Fit l l' T y → Cm (fun k => (spec_l2Match.f k s l s l' (T ++ [y])).bind fun z => if z.2 = true then some (z.1, true) else spec_l2Match.l0 k T T.length (y + 1) s l s l') Q) (hN : ¬ Fit l l' T y → Cm (fun k => spec_l2Match.l0 k T T.length (y + 1) s l s l') Q) :
    Cm (fun k => spec_l2Match.l0 k T T.length y s l s l') Q := by
  refine Cm.step (fun k => by simp only [spec_l2Match.l0, if_pos hy.2]; try rfl) (Cm.bindE (has_ev T y (by omega)) ?_)
  have stop : ∀ j : Int, Cm (fun k => spec_l2Match.j2 k T T.length y false j false s l s l') Q ∨ Fit l l' T y := fun j => by
    by_cases hF : Fit l l' T y
    · exact .inr hF
    · exact .inl (Cm.step (fun k => by simp (disch := omega) only [spec_l2Match.j2, Bool.false_eq_true, if_false, w64 (y + 1)]; try rfl) (hN hF))
  refine Cm.up (fun k j f => spec_l2Match.l1 k T T.length y f j s l s l') T.length (fun j f => 0 ≤ j ∧ (f = true ↔ y ∉ T ∧ ∀ i : Int, 0 ≤ i → i < j → near l i T.length = near l' (rd T i) y)) _ ?_ 0 _ (by omega) ⟨by omega, ?_⟩
  · rintro j f hj ⟨j0, hf⟩ ih
    cases f with
    | false =>
      have hnF : ¬ Fit l l' T y := fun hF => Bool.noConfusion (hf.2 ⟨hF.1, fun i i0 i1 => hF.2 i i0 (by omega)⟩)
      have hst := (stop j).resolve_right hnF
      by_cases h : j < (T.length : Int)
      · exact Cm.step (fun k => by simp only [spec_l2Match.l1, if_pos h]; try rfl) hst
      · exact Cm.step (fun k => by simp only [spec_l2Match.l1, if_neg h]; try rfl) hst
    | true =>
      have hf' := hf.1 rfl
      by_cases h : j < (T.length : Int)
      · refine Cm.step (fun k => by simp only [spec_l2Match.l1, if_pos h]; try rfl) (Cm.step (fun k => by simp (disch := omega) only [spec_l2Match.j2, if_true, if_pos j0, if_pos h, w64 (j + 1)]; try rfl) ?_)
        refine Cm.bindE (near_ev s l j _ hl) (Cm.bindE (near_ev s l' (rd T j) y hl') (ih _ h ⟨by omega, ?_⟩))
        rw [beq_iff_eq]
        constructor
        · intro e
          refine ⟨hf'.1, fun i i0 i1 => ?_⟩
          by_cases hi : i < j
          · exact hf'.2 i i0 hi
          · rw [show i = j by omega]
            exact e
        · intro e
          exact e.2 j j0 (by omega)
      · have hF : Fit l l' T y := ⟨hf'.1, fun i i0 i1 => hf'.2 i i0 (by omega)⟩
        have e1 : spec_l1Own.f T = some T := by
          unfold spec_l1Own.f
          rw [Option.bind_some, if_pos (by rw [List.length_nil]; omega)]
          rfl
        refine Cm.step (fun k => by simp only [spec_l2Match.l1, if_neg h]; try rfl) (Cm.step (fun k => by simp (disch := omega) only [spec_l2Match.j2, Bool.false_eq_true, if_false, if_true, e1, Option.bind_some, List.length_singleton, w64 (y + 1)]; try rfl) ?_)
        exact Cm.pos (by omega) (hP hF)
  · rw [Bool.not_eq_true', decide_eq_false_iff_not]
    exact ⟨fun h => ⟨h, fun i i0 i1 => by omega⟩, fun h => h.1⟩

theorem impl_fit (s : Int) (l l' : List S65) (m m' : List Int) (hm : Net s l m) (hm' : Net s l' m') (h8 : s ≤ 8) (T : List Int) (hT : (T.length : Int) < s) (hTm : ∀ x ∈ T, 0 ≤ x ∧ x < s) (y : Int) (hy : 0 ≤ y ∧ y < s) (Q : List Int × Bool → Prop)
    (hP : Fit l l' T y → Cm (fun k => (impl_net_isomorphism.f k m m' (T ++ [y])).bind fun z => if z.2 = true then some (z.1, true) else impl_net_isomorphism.l0 k T T.length m'.length (y + 1) m m') Q) (hN : ¬ Fit l l' T y → Cm (fun k => impl_net_isomorphism.l0 k T T.length m'.length (y + 1) m m') Q) :
    Cm (fun k => impl_net_isomorphism.l0 k T T.length m'.length y m m') Q := by
  have hml := hm'.1.1
  refine Cm.step (fun k => by simp (disch := omega) only [impl_net_isomorphism.l0, if_pos (show y < (m'.length : Int) by omega)]; try rfl) (Cm.bindE (contains_ev T y (by omega)) ?_)
  have stop : ∀ j : Int, Cm (fun k => impl_net_isomorphism.j2 k T T.length y false j m'.length y false m m') Q ∨ Fit l l' T y := fun j => by
    by_cases hF : Fit l l' T y
    · exact .inr hF
    · exact .inl (Cm.step (fun k => by simp (disch := omega) only [impl_net_isomorphism.j2, Bool.false_eq_true, if_false, w64 (y + 1)]; try rfl) (hN hF))
  refine Cm.up (fun k j f => impl_net_isomorphism.l1 k T T.length y f j m'.length y m m') T.length (fun j f => 0 ≤ j ∧ (f = true ↔ y ∉ T ∧ ∀ i : Int, 0 ≤ i → i < j → near l i T.length = near l' (rd T i) y)) _ ?_ 0 _ (by omega) ⟨by omega, ?_⟩
  · rintro j f hj ⟨j0, hf⟩ ih
    cases f with
    | false =>
      have hnF : ¬ Fit l l' T y := fun hF => Bool.noConfusion (hf.2 ⟨hF.1, fun i i0 i1 => hF.2 i i0 (by omega)⟩)
      have hst := (stop j).resolve_right hnF
      by_cases h : j < (T.length : Int)
      · exact Cm.step (fun k => by simp only [impl_net_isomorphism.l1, if_pos h]; try rfl) hst
      · exact Cm.step (fun k => by simp only [impl_net_isomorphism.l1, if_neg h]; try rfl) hst
    | true =>
      have hf' := hf.1 rfl
      by_cases h : j < (T.length : Int)
      · have hx := hTm _ (rd_mem T j j0 h)
        have e1 : impl_net_has.f m j T.length = some (near l j T.length) := by rw [has_eq s m j T.length hm.1 j0 (by omega) (by omega), hm.2 j T.length j0 (by omega) (by omega) (by omega)]
        have e2 : impl_net_has.f m' (rd T j) y = some (near l' (rd T j) y) := by rw [has_eq s m' (rd T j) y hm'.1 hx.1 hx.2 hy.1, hm'.2 (rd T j) y hx.1 hx.2 hy.1 (by omega)]
        refine Cm.step (fun k => by simp only [impl_net_isomorphism.l1, if_pos h]; try rfl) (Cm.step (fun k => by simp (disch := omega) only [impl_net_isomorphism.j2, if_true, if_pos j0, if_pos h, e1, e2, Option.bind_some, w64 (j + 1)]; try rfl) ?_)
        refine ih _ h ⟨by omega, ?_⟩
        rw [beq_iff_eq]
        constructor
        · intro e
          refine ⟨hf'.1, fun i i0 i1 => ?_⟩
          by_cases hi : i < j
          · exact hf'.2 i i0 hi
          · rw [show i = j by omega]
            exact e
        · intro e
          exact e.2 j j0 (by omega)
      · have hF : Fit l l' T y := ⟨hf'.1, fun i i0 i1 => hf'.2 i i0 (by omega)⟩
        have e1 : slices_Clone_int_int.f T = some T := by
          unfold slices_Clone_int_int.f
          rw [if_pos (by omega)]
        refine Cm.step (fun k => by simp only [impl_net_isomorphism.l1, if_neg h]; try rfl) (Cm.step (fun k => by simp (disch := omega) only [impl_net_isomorphism.j2, Bool.false_eq_true, if_false, if_true, e1, Option.bind_some, List.length_singleton, w64 (y + 1)]; try rfl) ?_)
        exact Cm.pos (by omega) (hP hF)
  · rw [Bool.not_eq_true', decide_eq_false_iff_not]
    exact ⟨fun h => ⟨h, fun i i0 i1 => by omega⟩, fun h => h.1⟩

/-- What the search tells. -/
def Told (s : Int) (l l' : List S65) (r : List Int × Bool) : Prop := (r.2 = true ∧ Part s l l' r.1 ∧ (r.1.length : Int) = s) ∨ r = ([], false)

theorem match_both (s : Int) (l l' : List S65) (hl : l.length ≤ 1048576) (hl' : l'.length ≤ 1048576) (h0 : 0 ≤ s) (h8 : s ≤ 8) (m m' : List Int) (hm : Net s l m) (hm' : Net s l' m') :
    ∀ (d : Nat) (T : List Int), (T.length : Int) + d = s → Part s l l' T → ∃ r, Told s l l' r ∧ Ev (fun k => spec_l2Match.f k s l s l' T) r ∧ Ev (fun k => impl_net_isomorphism.f k m m' T) r := by
  intro d
  have hms := hm.1.1
  have hsz : impl_net_size.f m = some s := by
    unfold impl_net_size.f
    rw [hms]
  induction d with
  | zero =>
    intro T hT hP
    have e : (T.length : Int) = s := by omega
    refine ⟨(T, true), .inl ⟨rfl, hP, e⟩, Cm.ev (Cm.step (fun k => by simp only [spec_l2Match.f, if_pos e]; try rfl) (Cm.now rfl)), Cm.ev (Cm.step (fun k => by simp only [impl_net_isomorphism.f, hsz, Option.bind_some, if_pos e]; try rfl) (Cm.now rfl))⟩
  | succ d ih =>
    intro T hT hP
    have e : ¬ (T.length : Int) = s := by omega
    have loop : ∀ (c : Nat) (y : Int), 0 ≤ y → y + c = s → ∃ r, Told s l l' r ∧ Ev (fun k => spec_l2Match.l0 k T T.length y s l s l') r ∧ Ev (fun k => impl_net_isomorphism.l0 k T T.length m'.length y m m') r := by
      intro c
      have hml := hm'.1.1
      induction c with
      | zero =>
        intro y y0 hy
        exact ⟨([], false), .inr rfl, Cm.ev (Cm.step (fun k => by simp only [spec_l2Match.l0, if_neg (show ¬ y < s by omega)]; try rfl) (Cm.now rfl)), Cm.ev (Cm.step (fun k => by simp only [impl_net_isomorphism.l0, if_neg (show ¬ y < (m'.length : Int) by omega)]; try rfl) (Cm.now rfl))⟩
      | succ c ihc =>
        intro y y0 hy
        obtain ⟨r, hr, e1, e2⟩ := ihc (y + 1) (by omega) (by omega)
        by_cases hF : Fit l l' T y
        · obtain ⟨r', hr', e1', e2'⟩ := ih (T ++ [y]) (by rw [List.length_append, List.length_singleton]; omega) (part_app hP ⟨y0, by omega⟩ hF)
          by_cases hb : r'.2 = true
          · refine ⟨r', hr', Cm.ev (spec_fit s l l' hl hl' h8 T (by omega) y ⟨y0, by omega⟩ _ (fun _ => Cm.bindE e1' (Cm.pos hb (Cm.now (by rw [← hb])))) (fun h => (h hF).elim)), Cm.ev (impl_fit s l l' m m' hm hm' h8 T (by omega) hP.1 y ⟨y0, by omega⟩ _ (fun _ => Cm.bindE e2' (Cm.pos hb (Cm.now (by rw [← hb])))) (fun h => (h hF).elim))⟩
          · refine ⟨r, hr, Cm.ev (spec_fit s l l' hl hl' h8 T (by omega) y ⟨y0, by omega⟩ _ (fun _ => Cm.bindE e1' (Cm.neg hb (Ev.cm e1))) (fun h => (h hF).elim)), Cm.ev (impl_fit s l l' m m' hm hm' h8 T (by omega) hP.1 y ⟨y0, by omega⟩ _ (fun _ => Cm.bindE e2' (Cm.neg hb (Ev.cm e2))) (fun h => (h hF).elim))⟩
        · exact ⟨r, hr, Cm.ev (spec_fit s l l' hl hl' h8 T (by omega) y ⟨y0, by omega⟩ _ (fun h => (hF h).elim) (fun _ => Ev.cm e1)), Cm.ev (impl_fit s l l' m m' hm hm' h8 T (by omega) hP.1 y ⟨y0, by omega⟩ _ (fun h => (hF h).elim) (fun _ => Ev.cm e2))⟩
    obtain ⟨r, hr, e1, e2⟩ := loop s.toNat 0 (by omega) (by omega)
    exact ⟨r, hr, Cm.ev (Cm.step (fun k => by simp only [spec_l2Match.f, if_neg e]; try rfl) (Ev.cm e1)), Cm.ev (Cm.step (fun k => by simp only [impl_net_isomorphism.f, hsz, Option.bind_some, if_neg e]; try rfl) (Ev.cm e2))⟩

open Classical in
theorem inj_le {α β : Type} (φ : α → β) : ∀ {a : List α} {b : List β}, a.Nodup → (∀ x ∈ a, φ x ∈ b) → (∀ x ∈ a, ∀ y ∈ a, φ x = φ y → x = y) → a.length ≤ b.length
  | [], _, _, _, _ => by simp
  | y :: a, b, hn, hs, hi => by
    have hn' := List.nodup_cons.1 hn
    have hy := hs y List.mem_cons_self
    have h1 : ∀ z ∈ a, φ z ∈ b.erase (φ y) := fun z hz => (List.mem_erase_of_ne (show φ z ≠ φ y from fun e' => hn'.1 (by rw [← hi z (List.mem_cons_of_mem _ hz) y List.mem_cons_self e']; exact hz))).2 (hs z (List.mem_cons_of_mem _ hz))
    have h2 := inj_le φ hn'.2 h1 (fun x hx z hz => hi x (List.mem_cons_of_mem _ hx) z (List.mem_cons_of_mem _ hz))
    rw [List.length_erase_of_mem hy] at h2
    have h3 : 0 < b.length := List.length_pos_of_mem hy
    rw [List.length_cons]
    omega

theorem edges_le (s : Int) (l l' : List S65) (hG : Gr.Good s l) (hO : Sorted l) (hG' : Gr.Good s l') (f : Int → Int) (hi : ∀ u v : Int, 0 ≤ u → u < s → 0 ≤ v → v < s → f u = f v → u = v) (hn : ∀ u v : Int, near l u v = true → near l' (f u) (f v) = true) : l.length ≤ l'.length := by
  have hnd : l.Nodup := List.Pairwise.imp (fun {a b} h e => by subst e; unfold ltP at h; omega) (sorted_up2 hO)
  have hm : ∀ e ∈ l, (0 ≤ e.f0 ∧ e.f0 < e.f1 ∧ e.f1 < s) ∧ near l' (f e.f0) (f e.f1) = true := fun e he => by
    have := good_mem hG he
    exact ⟨by omega, hn _ _ ((near_iff l _ _).2 (.inl he))⟩
  refine inj_le (fun e => if f e.f0 < f e.f1 then (⟨f e.f0, f e.f1⟩ : S65) else ⟨f e.f1, f e.f0⟩) hnd (fun e he => ?_) (fun e he e' he' h => ?_)
  · have := hm e he
    have hne := near_in hG' this.2
    by_cases c : f e.f0 < f e.f1
    · rw [if_pos c]
      exact (near_lt hG' c).1 this.2
    · rw [if_neg c]
      refine (near_lt hG' (show f e.f1 < f e.f0 by omega)).1 ?_
      rw [near_symm]
      exact this.2
  · have h1 := (hm e he).1
    have h2 := (hm e' he').1
    have key : (f e.f0 = f e'.f0 ∧ f e.f1 = f e'.f1) ∨ (f e.f0 = f e'.f1 ∧ f e.f1 = f e'.f0) := by
      split at h <;> split at h <;> (injection h with a b; first | exact .inl ⟨a, b⟩ | exact .inl ⟨b, a⟩ | exact .inr ⟨a, b⟩ | exact .inr ⟨b, a⟩)
    rcases key with ⟨a, b⟩ | ⟨a, b⟩
    · have x1 := hi _ _ (by omega) (by omega) (by omega) (by omega) a
      have x2 := hi _ _ (by omega) (by omega) (by omega) (by omega) b
      cases e
      cases e'
      dsimp only at x1 x2
      rw [x1, x2]
    · have x1 := hi _ _ (by omega) (by omega) (by omega) (by omega) a
      have x2 := hi _ _ (by omega) (by omega) (by omega) (by omega) b
      omega

theorem part_len (s : Int) (l l' : List S65) (hG : Gr.Good s l) (hO : Sorted l) (hG' : Gr.Good s l') (hO' : Sorted l') (T : List Int) (hP : Part s l l' T) (hT : (T.length : Int) = s) : l.length = l'.length := by
  have hinj : ∀ u v : Int, 0 ≤ u → u < s → 0 ≤ v → v < s → rd T u = rd T v → u = v := by
    have one : ∀ u v : Int, 0 ≤ u → u < v → v < s → rd T u ≠ rd T v := fun u v u0 uv v1 e => by
      have hp := List.pairwise_iff_getElem.1 hP.2.1 u.toNat v.toNat (by omega) (by omega) (by omega)
      have eu := rd_eq T u.toNat (by omega)
      have ev := rd_eq T v.toNat (by omega)
      rw [Int.toNat_of_nonneg u0] at eu
      rw [Int.toNat_of_nonneg (by omega)] at ev
      rw [← eu, ← ev] at hp
      exact hp e
    intro u v u0 u1 v0 v1 e
    rcases Int.lt_trichotomy u v with h | h | h
    · exact (one u v u0 h v1 e).elim
    · exact h
    · exact (one v u v0 h u1 e.symm).elim
  have hin : ∀ u : Int, 0 ≤ u → u < s → 0 ≤ rd T u ∧ rd T u < s := fun u u0 u1 => hP.1 _ (rd_mem T u u0 (by omega))
  have heq : ∀ u v : Int, 0 ≤ u → u < s → 0 ≤ v → v < s → near l u v = near l' (rd T u) (rd T v) := by
    intro u v u0 u1 v0 v1
    rcases Int.lt_trichotomy u v with h | h | h
    · exact hP.2.2 u v u0 h (by omega)
    · subst h
      rw [Bool.eq_iff_iff]
      exact ⟨fun e => ((near_in hG e).2.2 rfl).elim, fun e => ((near_in hG' e).2.2 rfl).elim⟩
    · rw [near_symm l, near_symm l']
      exact hP.2.2 v u v0 h (by omega)
  have hsur : ∀ y : Int, ∃ u : Int, 0 ≤ y → y < s → (0 ≤ u ∧ u < s) ∧ rd T u = y := fun y => by
    by_cases hy : 0 ≤ y ∧ y < s
    · have hmem := sub_all hP.2.1 (fun x hx => mem_V.2 (hP.1 x hx)) (by rw [V_len]; omega) y (mem_V.2 hy)
      obtain ⟨u, u0, u1, e⟩ := mem_rd hmem
      exact ⟨u, fun _ _ => ⟨⟨u0, by omega⟩, e⟩⟩
    · exact ⟨0, fun a b => (hy ⟨a, b⟩).elim⟩
  refine Nat.le_antisymm (edges_le s l l' hG hO hG' (rd T) hinj (fun u v h => ?_)) ?_
  · have hu := near_in hG h
    rw [← heq u v hu.1.1 hu.1.2 hu.2.1.1 hu.2.1.2]
    exact h
  · refine edges_le s l' l hG' hO' hG (fun y => (hsur y).choose) (fun u v u0 u1 v0 v1 e => ?_) (fun u v h => ?_)
    · have a := (hsur u).choose_spec u0 u1
      have b := (hsur v).choose_spec v0 v1
      rw [← a.2, ← b.2, e]
    · have hu := near_in hG' h
      have a := (hsur u).choose_spec hu.1.1 hu.1.2
      have b := (hsur v).choose_spec hu.2.1.1 hu.2.1.2
      rw [heq _ _ a.1.1 a.1.2 b.1.1 b.1.2, a.2, b.2]
      exact h

theorem both (s : Int) (l : List S65) (s' : Int) (l' : List S65) (hl : l.length ≤ 1048576) (hl' : l'.length ≤ 1048576) : ∃ r b, r.length ≤ 1048576 ∧ Ev (fun k => spec_FindIsomorphism.f k s l s' l') (r, b) ∧ Ev (fun k => impl_FindIsomorphism.f k s l s' l') (r, b) := by
  obtain ⟨b, hb, hS, hI⟩ := isGraph_full s l hl
  obtain ⟨b', hb', hS', hI'⟩ := isGraph_full s' l' hl'
  have iJ : Cm (fun k => impl_FindIsomorphism.j0 k true s l s' l') (fun z => z = ([], false)) := Cm.step (fun k => by simp only [impl_FindIsomorphism.j0, if_true]; try rfl) (Cm.now rfl)
  cases b with
  | false => exact ⟨[], false, by simp, Cm.ev (Cm.bindE hS (Cm.neg (by decide) (Cm.now rfl))), Cm.ev (Cm.bindE hI (Cm.neg (by decide) iJ))⟩
  | true =>
    cases b' with
    | false => exact ⟨[], false, by simp, Cm.ev (Cm.bindE hS (Cm.pos rfl (Cm.bindE hS' (Cm.neg (by decide) (Cm.now rfl))))), Cm.ev (Cm.bindE hI (Cm.pos rfl (Cm.bindE hI' (Cm.neg (by decide) iJ))))⟩
    | true =>
      obtain ⟨hG, hO⟩ := hb rfl
      obtain ⟨hG', hO'⟩ := hb' rfl
      by_cases hs : s = s'
      · subst hs
        have h8 := hG.2.1
        have h0 := hG.1
        obtain ⟨m, hm, hbit, hN⟩ := net_ev s l hl hG
        obtain ⟨m', hm', hbit', hN'⟩ := net_ev s l' hl' hG'
        obtain ⟨r, hr, e1, e2⟩ := match_both s l l' hl hl' h0 h8 m m' ⟨hm, hbit⟩ ⟨hm', hbit'⟩ s.toNat [] (by rw [List.length_nil]; omega) ⟨by simp, List.nodup_nil, fun j k j0 jk hk => by rw [List.length_nil] at hk; omega⟩
        have hlen : r.1.length ≤ 1048576 := by
          rcases hr with h | h
          · have := h.2.2
            omega
          · rw [h]
            simp
        have hz : (s != s) = false := by simp
        have eI : Ev (fun k => impl_FindIsomorphism.f k s l s l') r := by
          refine Cm.ev (Cm.bindE hI (Cm.pos rfl (Cm.bindE hI' (Cm.pos rfl ?_))))
          rw [hz]
          refine Cm.step (fun k => by simp only [impl_FindIsomorphism.j0, Bool.false_eq_true, if_false]; try rfl) ?_
          exact Cm.bindE hN (Cm.bindE hN' (Cm.bindE e2 (Cm.now rfl)))
        by_cases hll : (l.length : Int) = (l'.length : Int)
        · exact ⟨r.1, r.2, hlen, Cm.ev (Cm.bindE hS (Cm.pos rfl (Cm.bindE hS' (Cm.pos rfl (Cm.pos rfl (Cm.pos hll (Cm.bindE e1 (Cm.now rfl)))))))), eI⟩
        · rcases hr with h | h
          · exact (hll (by rw [part_len s l l' hG hO hG' hO' r.1 h.2.1 h.2.2])).elim
          · subst h
            exact ⟨[], false, by simp, Cm.ev (Cm.bindE hS (Cm.pos rfl (Cm.bindE hS' (Cm.pos rfl (Cm.pos rfl (Cm.neg hll (Cm.now rfl))))))), eI⟩
      · have hz : (s != s') = true := by simpa using hs
        refine ⟨[], false, by simp, Cm.ev (Cm.bindE hS (Cm.pos rfl (Cm.bindE hS' (Cm.pos rfl (Cm.neg hs (Cm.now rfl)))))), Cm.ev (Cm.bindE hI (Cm.pos rfl (Cm.bindE hI' (Cm.pos rfl ?_))))⟩
        rw [hz]
        exact iJ

theorem FnExactFindIsomorphism : laws_FnExactFindIsomorphism.Pure := by
  intro s0 l0 s1 l1 hs0 hl0 hx0 hs1 hl1 hx1
  refine Ev.rounds (Cm.ev ?_)
  unfold laws_FnExactFindIsomorphism.f
  by_cases c0 : (1048576 : Int) - l0.length < 0
  · exact Cm.bindE (sz_ev (sz_big s0 l0 hl0 c0)) (Cm.pos (by decide) (Cm.now rfl))
  refine Cm.bindE (sz_ev (sz_small s0 l0 (by omega))) (Cm.neg c0 ?_)
  by_cases c1 : (1048576 : Int) - l0.length - l1.length < 0
  · exact Cm.bindE (sz_ev (sz_bigR s1 l1 _ hl1 (by omega) (by omega) c1)) (Cm.pos (by decide) (Cm.now rfl))
  refine Cm.bindE (sz_ev (sz_smallR s1 l1 _ (by omega) (by omega))) (Cm.neg c1 ?_)
  obtain ⟨es, b, he, E1, E2⟩ := both s0 l0 s1 l1 (by omega) (by omega)
  obtain ⟨r0, M0⟩ := mark_at s0 l0 ((1 : Int)) (by omega) (by omega) (by omega)
  obtain ⟨r1, M1⟩ := mark_at s1 l1 ((1 : Int) + 2 * (l0.length : Int)) (by omega) (by omega) (by omega)
  obtain ⟨re, E3, E4⟩ := mark_heldI es (by omega)
  have a_b : ¬ (b != b) = true := by cases b <;> decide
  repeat first
    | with_reducible exact Cm.now rfl
    | refine Cm.bindE (toGraph_ev s0 l0 (by omega)) ?_
    | refine Cm.bindE (toGraph_ev s1 l1 (by omega)) ?_
    | refine Cm.bindE E1 ?_
    | refine Cm.bindE E2 ?_
    | refine Cm.bindE (eqI_ev es (by omega)) (Cm.pos rfl ?_)
    | refine Cm.bindE (eqGraph_ev s0 l0 (by omega)) (Cm.pos rfl ?_)
    | refine Cm.bindE (eqGraph_ev s1 l1 (by omega)) (Cm.pos rfl ?_)
    | refine Cm.bindE M0 ?_
    | refine Cm.bindE M1 ?_
    | refine Cm.bindE E3 ?_
    | refine Cm.bindE E4 ?_
    | refine Cm.neg a_b ?_
    | refine Cm.neg (by omega) ?_
    | refine Cm.pos (by omega) ?_
    | refine Cm.pos rfl ?_
    | dsimp only

end Go.Proofs.Yteepmbpmhaaonaa.Pure
