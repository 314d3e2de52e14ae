/- The stripping, by both; no conditions beyond those that each theorem names. -/
import Derived.Test.YtmbgpbanbffchaaGrRw
import Derived.Test.YtmbgpbanbffchaaGrF
import Derived.Test.YtmbgpbanbffchaaPxImplNetStripping
import Derived.Test.YtmbgpbanbffchaaPxNetA
import Derived.Test.YtmbgpbanbffchaaPxSpecL3C
namespace Go.Proofs.Ytmbgpbanbffchaa.Gr
open Go.RowKit Go.Proofs.Ytmbgpbanbffchaa.P Go.Proofs.YtmbgpbanbffchaaW.PrintWords Go.Proofs.YtmbgpbanbffchaaW.PrintLast Go.Proofs.YtmbgpbanbffchaaW.PrintMore

/-- The stripping from P on, n steps at most. -/
noncomputable def stripF (s : Int) (l : List S75) : Nat → (Int → Bool) → List S75 × (Int → Bool)
  | 0, P => ([], P)
  | n + 1, P => match corn s l P with
    | [] => ([], P)
    | x :: _ => ((⟨x, (covs s l P x).headD (-1)⟩ : S75) :: (stripF s l n (without P x)).1, (stripF s l n (without P x)).2)
theorem stripF_nil {s : Int} {l : List S75} {P : Int → Bool} (h : corn s l P = []) : ∀ n, stripF s l n P = ([], P)
  | 0 => rfl
  | n + 1 => by unfold stripF; rw [h]
theorem stripF_cons {s : Int} {l : List S75} {P : Int → Bool} {x : Int} {t : List Int} (h : corn s l P = x :: t) (n : Nat) : stripF s l (n + 1) P = ((⟨x, (covs s l P x).headD (-1)⟩ : S75) :: (stripF s l n (without P x)).1, (stripF s l n (without P x)).2) := by
  conv => lhs; unfold stripF
  rw [h]
theorem corn_head {s : Int} {l : List S75} {P : Int → Bool} {x : Int} {t : List Int} (h : corn s l P = x :: t) : (0 ≤ x ∧ x < s) ∧ P x = true ∧ hasC s l P x = true := by
  have : x ∈ corn s l P := by rw [h]; exact List.mem_cons_self
  unfold corn at this
  rw [mem_VF, Bool.and_eq_true] at this
  exact ⟨this.1, this.2⟩
theorem without_len {s : Int} {P : Int → Bool} {x : Int} (hx : 0 ≤ x ∧ x < s) (hP : P x = true) : ((V s).filter (without P x)).length + 1 ≤ ((V s).filter P).length := by
  refine nodup_le (a := x :: (V s).filter (without P x)) (List.nodup_cons.2 ⟨fun h => ?_, up_nodup (filter_up (V_up _) _)⟩) (fun y hy => ?_)
  · have := (mem_VF.1 h).2
    unfold without at this
    simp at this
  · rcases List.mem_cons.1 hy with e | e
    · rw [e]; exact mem_VF.2 ⟨hx, hP⟩
    · have := mem_VF.1 e
      unfold without at this
      rw [Bool.and_eq_true] at this
      exact mem_VF.2 ⟨this.1, this.2.1⟩
theorem corn_empty {s : Int} {l : List S75} {P : Int → Bool} (h : ((V s).filter P).length = 0) : corn s l P = [] := by
  cases hc : corn s l P with
  | nil => rfl
  | cons x t =>
    have := corn_head hc
    have hm : x ∈ (V s).filter P := mem_VF.2 ⟨this.1, this.2.1⟩
    rw [List.length_eq_zero_iff.1 h] at hm
    cases hm
theorem rd_head (x : Int) (t : List Int) : rd (x :: t) 0 = x := rfl

theorem strip_spec (s : Int) (l : List S75) (hl : l.length ≤ 1048576) (hG : Gr.Good s l) : ∀ (n : Nat) (P : Int → Bool) (a : List S75), ((V s).filter P).length ≤ n → a.length + n ≤ 1000 →
    Ev (fun k => spec_l3Strip.l0 k a ((V s).filter P) (corn s l P) s l) (a ++ (stripF s l n P).1, (V s).filter (stripF s l n P).2) := by
  have h8 := hG.2.1
  have fin : ∀ (n : Nat) (P : Int → Bool) (a : List S75), corn s l P = [] → Ev (fun k => spec_l3Strip.l0 k a ((V s).filter P) (corn s l P) s l) (a ++ (stripF s l n P).1, (V s).filter (stripF s l n P).2) := fun n P a hc => by
    refine Cm.ev ?_
    rw [stripF_nil hc, hc]
    refine Cm.step (fun k => by simp only [spec_l3Strip.l0]; try rfl) ?_
    refine Cm.neg (by simp) (Cm.now ?_)
    rw [List.append_nil]
  intro n
  induction n with
  | zero => exact fun P a hP _ => fin 0 P a (corn_empty (by omega))
  | succ n ih =>
    intro P a hP ha
    cases hc : corn s l P with
    | nil => rw [← hc]; exact fin _ P a hc
    | cons x t =>
      have hx := corn_head hc
      have hw := without_len hx.1 hx.2.1
      have hlen : ((V s).filter P).length ≤ s.toNat := VF_len
      refine Cm.ev ?_
      rw [stripF_cons hc]
      refine Cm.step (fun k => by simp only [spec_l3Strip.l0, rd_head]; try rfl) ?_
      refine Cm.pos (by rw [List.length_cons]; omega) (Cm.pos (by rw [List.length_cons]; omega) (Cm.bindE (cover_ev s l hl hG _ (by omega) (filter_up (V_up _) _) (fun y hy => (mem_VF.1 hy).1) P (fun b b0 b1 => by rw [mem_VF]; exact ⟨fun h => h.2, fun h => ⟨⟨b0, b1⟩, h⟩⟩) x hx.1) (Cm.pos (by omega) (Cm.bindE (without_ev s x P h8) (Cm.bindE (corners_spec s l hl hG (without P x)) (Cm.of (ih (without P x) (a ++ [(⟨x, (covs s l P x).headD (-1)⟩ : S75)]) (by omega) (by rw [List.length_append, List.length_singleton]; omega)) ?_))))))
      rw [List.append_assoc]
      rfl

theorem strip_impl (s : Int) (l : List S75) (hG : Gr.Good s l) (r : List Int) (hN : Net s l r) : ∀ (n : Nat) (P : Int → Bool) (m : Int) (a : List S75), IsM s P m → ((V s).filter P).length ≤ n → a.length + n ≤ 1000 →
    Cm (fun k => impl_net_stripping.l0 k a m r) (fun x => x.1 = a ++ (stripF s l n P).1 ∧ IsM s (stripF s l n P).2 x.2) := by
  have h8 := hG.2.1
  have fin : ∀ (n : Nat) (P : Int → Bool) (m : Int) (a : List S75), IsM s P m → corn s l P = [] → Cm (fun k => impl_net_stripping.l0 k a m r) (fun x => x.1 = a ++ (stripF s l n P).1 ∧ IsM s (stripF s l n P).2 x.2) := fun n P m a hM hc => by
    rw [stripF_nil hc]
    refine Cm.step (fun k => by simp only [impl_net_stripping.l0]; try rfl) ?_
    refine Cm.bindE (corners_impl s l hG r hN P m hM) ?_
    rw [hc]
    exact Cm.pos rfl (Cm.now ⟨(List.append_nil a).symm, hM⟩)
  intro n
  induction n with
  | zero => exact fun P m a hM hP _ => fin 0 P m a hM (corn_empty (by omega))
  | succ n ih =>
    intro P m a hM hP ha
    cases hc : corn s l P with
    | nil => exact fin _ P m a hM hc
    | cons x t =>
      have hx := corn_head hc
      have hw := without_len hx.1 hx.2.1
      obtain ⟨y, u, hy⟩ := hasC_iff.1 hx.2.2
      rw [stripF_cons hc]
      refine Cm.step (fun k => by simp only [impl_net_stripping.l0]; try rfl) ?_
      refine Cm.bindE (corners_impl s l hG r hN P m hM) ?_
      rw [hc]
      refine Cm.neg (by rw [List.length_cons]; omega) (Cm.pos (by rw [List.length_cons]; omega) (Cm.bindE (covers_impl s l hG r hN P m hM x hx.1) ?_))
      rw [hy]
      refine Cm.pos (by rw [List.length_cons]; omega) (Cm.pos (by omega) (Cm.pos hx.1.1 (Cm.mono (ih (without P x) _ (a ++ [(⟨x, y⟩ : S75)]) (mask_without hM ⟨hx.1.1, by omega⟩) (by omega) (by rw [List.length_append, List.length_singleton]; omega)) (fun z hz => ⟨?_, hz.2⟩))))
      rw [hz.1, List.append_assoc]
      rfl

theorem strip_both (s : Int) (l : List S75) (hl : l.length ≤ 1048576) (hG : Gr.Good s l) (r : List Int) (hN : Net s l r) : ∃ (a : List S75) (P : Int → Bool) (m : Int), a.length ≤ 8 ∧ IsM s P m ∧ (a, P) = stripF s l 8 (fun _ => true) ∧ Ev (fun k => spec_l3Strip.f k s l) (a, (V s).filter P) ∧ Ev (fun k => impl_net_stripping.f k r) (a, m) := by
  have h8 := hG.2.1
  have h0 := hG.1
  have hlen : ((V s).filter (fun _ => true)).length ≤ s.toNat := VF_len
  obtain ⟨x, hx, hx1, hx2⟩ := strip_impl s l hG r hN 8 (fun _ => true) _ [] (mask_all h0 h8) (by omega) (by simp)
  have hsp := strip_spec s l hl hG 8 (fun _ => true) [] (by omega) (by simp)
  have hlen8 : ∀ (n : Nat) (P : Int → Bool), (stripF s l n P).1.length ≤ n := by
    intro n
    induction n with
    | zero => intro P; exact Nat.le_refl _
    | succ n ih =>
      intro P
      cases hc : corn s l P with
      | nil => rw [stripF_nil hc]; simp
      | cons y t =>
        rw [stripF_cons hc]
        have := ih (without P y)
        simp only [List.length_cons]
        omega
  refine ⟨(stripF s l 8 (fun _ => true)).1, (stripF s l 8 (fun _ => true)).2, x.2, hlen8 _ _, hx2, rfl, Cm.ev ?_, Cm.ev ?_⟩
  · unfold spec_l3Strip.f
    exact Cm.bindE (all_ev s l h0 h8) (Cm.bindE (corners_spec s l hl hG _) (Cm.of hsp (by rw [List.nil_append])))
  · unfold impl_net_stripping.f impl_net_all.f
    have hm := hN.1.1
    rw [hm]
    refine Cm.bindE (sz_ev rfl) (Cm.of hx ?_)
    rw [← hx1.trans (List.nil_append _)]

end Go.Proofs.Ytmbgpbanbffchaa.Gr
