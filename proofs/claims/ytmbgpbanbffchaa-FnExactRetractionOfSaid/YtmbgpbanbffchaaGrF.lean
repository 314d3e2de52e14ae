/- Corners of a set, by both; a set without a node; no conditions beyond those that each theorem names. -/
import Derived.Test.YtmbgpbanbffchaaGrVc
import Derived.Test.YtmbgpbanbffchaaPxImplNetCorners
import Derived.Test.YtmbgpbanbffchaaPxSpecL3C
namespace Go.Proofs.Ytmbgpbanbffchaa.Gr
open Go.RowKit Go.Proofs.Ytmbgpbanbffchaa.P Go.Proofs.YtmbgpbanbffchaaW.PrintWords Go.Proofs.YtmbgpbanbffchaaW.PrintLast Go.Proofs.YtmbgpbanbffchaaW.PrintMore

/-- Has x a cover in P? -/
noncomputable def hasC (s : Int) (l : List S75) (P : Int → Bool) (x : Int) : Bool := !(covs s l P x).isEmpty
/-- The corners in P, in order. -/
noncomputable def corn (s : Int) (l : List S75) (P : Int → Bool) : List Int := (V s).filter (fun x => P x && hasC s l P x)
theorem hasC_iff {s : Int} {l : List S75} {P : Int → Bool} {x : Int} : hasC s l P x = true ↔ ∃ y t, covs s l P x = y :: t := by
  unfold hasC
  cases covs s l P x with
  | nil => simp
  | cons y t => simp
theorem head_ge {s : Int} {l : List S75} {P : Int → Bool} {x : Int} : (covs s l P x).headD (-1) ≥ 0 ↔ hasC s l P x = true := by
  rw [hasC_iff]
  cases h : covs s l P x with
  | nil => simp
  | cons y t =>
    have : y ∈ covs s l P x := by rw [h]; exact List.mem_cons_self
    have := (mem_covs.1 this).2.1.1
    simp only [List.headD_cons]
    exact ⟨fun _ => ⟨y, t, rfl⟩, fun _ => this⟩
theorem ev_all {α β : Type} (g : Nat → α → Option β) (h : α → β) : ∀ L : List α, (∀ x ∈ L, Ev (fun k => g k x) (h x)) → ∃ K, ∀ k, K ≤ k → ∀ x ∈ L, g k x = some (h x)
  | [], _ => ⟨0, fun _ _ x hx => by cases hx⟩
  | a :: L, hL => by
    obtain ⟨K1, h1⟩ := hL a List.mem_cons_self
    obtain ⟨K2, h2⟩ := ev_all g h L (fun x hx => hL x (List.mem_cons_of_mem _ hx))
    dsimp only at h1
    refine ⟨max K1 K2, fun k hk x hx => ?_⟩
    rcases List.mem_cons.1 hx with e | e
    · rw [e]; exact h1 k (by omega)
    · exact h2 k (by omega) x e

theorem corners_spec (s : Int) (l : List S75) (hl : l.length ≤ 1048576) (hG : Gr.Good s l) (P : Int → Bool) : Ev (fun k => spec_l3Corners.f k s l ((V s).filter P)) (corn s l P) := by
  refine Cm.ev ?_
  unfold spec_l3Corners.f
  have h8 := hG.2.1
  obtain ⟨L, hL⟩ : ∃ L, L = (V s).filter P := ⟨_, rfl⟩
  have hlen : L.length ≤ s.toNat := by rw [hL]; exact VF_len
  have hmL : ∀ b, b ∈ L ↔ (0 ≤ b ∧ b < s) ∧ P b = true := fun b => by rw [hL]; exact mem_VF
  have hup : Up L := by rw [hL]; exact filter_up (V_up _) _
  have hfin : L.filter (hasC s l P) = corn s l P := by rw [hL]; unfold corn; rw [List.filter_filter]; exact List.filter_congr (fun x _ => Bool.and_comm _ _)
  rw [← hL]
  refine Cm.up (fun k i a => spec_l3Corners.l0 k L a i s l) L.length (fun i a => 0 ≤ i ∧ a = (L.take i.toNat).filter (hasC s l P)) _ ?_ 0 [] (by omega) ⟨by omega, rfl⟩
  rintro i a hi ⟨h0, rfl⟩ ih
  have hal : ((L.take i.toNat).filter (hasC s l P)).length ≤ L.length := Nat.le_trans (List.length_filter_le _ _) (by rw [List.length_take]; omega)
  by_cases h : i < L.length
  · have hm := (hmL _).1 (rd_mem L i h0 h)
    refine Cm.step (fun k => by simp (disch := omega) only [spec_l3Corners.l0, if_pos h, if_pos h0, w64 (i + 1)]; try rfl) ?_
    refine Cm.bindE (cover_ev s l hl hG L (by omega) hup (fun x hx => ((hmL x).1 hx).1) P (fun b b0 b1 => by rw [hmL]; exact ⟨fun h => h.2, fun h => ⟨⟨b0, b1⟩, h⟩⟩) (rd L i) hm.1) (Cm.ite (fun e => Cm.pos (by omega) (ih _ h ⟨by omega, ?_⟩)) (fun e => ih _ h ⟨by omega, ?_⟩))
    · rw [take_rd L i h0 h, List.filter_append, List.filter_cons, head_ge.1 e]
      rfl
    · rw [take_rd L i h0 h, List.filter_append, List.filter_cons, Bool.eq_false_iff.2 (fun e' => e (head_ge.2 e'))]
      simp
  · refine Cm.step (fun k => by simp only [spec_l3Corners.l0, if_neg h]; try rfl) (Cm.now ?_)
    rw [take_all L i (by omega), hfin]

theorem corners_impl (s : Int) (l : List S75) (hG : Gr.Good s l) (r : List Int) (hN : Net s l r) (P : Int → Bool) (m : Int) (hM : IsM s P m) : Ev (fun k => impl_net_corners.f k r m) (corn s l P) := by
  refine Cm.ev ?_
  unfold impl_net_corners.f
  have h8 := hG.2.1
  refine Cm.bindE (setP_ev m hM.1 s h8 P hM.2) ?_
  obtain ⟨L, hL⟩ : ∃ L, L = (V s).filter P := ⟨_, rfl⟩
  have hlen : L.length ≤ s.toNat := by rw [hL]; exact VF_len
  have hmL : ∀ b, b ∈ L ↔ (0 ≤ b ∧ b < s) ∧ P b = true := fun b => by rw [hL]; exact mem_VF
  have hfin : L.filter (hasC s l P) = corn s l P := by rw [hL]; unfold corn; rw [List.filter_filter]; exact List.filter_congr (fun x _ => Bool.and_comm _ _)
  rw [← hL]
  obtain ⟨K, hK⟩ := ev_all (fun k x => impl_net_corners_1.f k x r m) (fun x => (((covs s l P x).length : Int) == 0)) L (fun x hx => by
    refine Cm.ev ?_
    unfold impl_net_corners_1.f
    exact Cm.bindE (covers_impl s l hG r hN P m hM x ((hmL x).1 hx).1) (Cm.now rfl))
  refine ⟨corn s l P, ⟨K, fun k hk => ?_⟩, rfl⟩
  have e1 : (L.all fun x => (impl_net_corners_1.f k x r m).isSome) = true := List.all_eq_true.2 (fun x hx => by rw [hK k hk x hx]; rfl)
  have e2 : (L.filter fun x => !(impl_net_corners_1.f k x r m).getD false) = L.filter (hasC s l P) := List.filter_congr (fun x hx => by
    rw [hK k hk x hx, Option.getD_some]
    unfold hasC
    cases covs s l P x with
    | nil => rfl
    | cons y t =>
      have : (((y :: t).length : Int) == 0) = false := by rw [beq_eq_false_iff_ne, List.length_cons]; omega
      rw [this]
      rfl)
  dsimp only
  rw [if_pos ⟨by omega, e1⟩, e2, hfin]

end Go.Proofs.Ytmbgpbanbffchaa.Gr
