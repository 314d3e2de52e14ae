/- The game of one cop, by both; no conditions beyond those that each theorem names. -/
import Derived.Test.YtmbgpbanbffchaaGrCo
import Derived.Test.YtmbgpbanbffchaaGrV0
import Derived.Test.YtmbgpbanbffchaaPxNetCan
import Derived.Test.YtmbgpbanbffchaaPxSlicesA
import Derived.Test.YtmbgpbanbffchaaPxSpecA
import Derived.Test.YtmbgpbanbffchaaPxSpecL3A
namespace Go.Proofs.Ytmbgpbanbffchaa.Gr
open Go.RowKit Go.Proofs.Ytmbgpbanbffchaa.P Go.Proofs.YtmbgpbanbffchaaW.PrintWords Go.Proofs.YtmbgpbanbffchaaW.PrintLast Go.Proofs.YtmbgpbanbffchaaW.PrintMore

/-- The nodes to which one can move. -/
def Bl (s : Int) (l : List S75) (x : Int) : List Int := (V s).filter (cl l x)
theorem bl_bal {s : Int} {l : List S75} : Bal s (Bl s l) := fun _ _ _ hy => (mem_VF.1 hy).1
theorem bl_len {s : Int} {l : List S75} {x : Int} : (Bl s l x).length ≤ s.toNat := VF_len
theorem bl_self {s : Int} {l : List S75} {x : Int} (hx : 0 ≤ x ∧ x < s) : x ∈ Bl s l x := mem_VF.2 ⟨hx, cl_self l x⟩

theorem setof_bl {s : Int} {l : List S75} {m : List Int} (hG : Gr.Good s l) (hN : Net s l m) (x : Int) (hx : 0 ≤ x ∧ x < s) : ∃ c, impl_net_closed.f m x = some c ∧ Ev (fun k => impl_setOf.f k c) (Bl s l x) := by
  have h8 := hG.2.1
  obtain ⟨c, h1, h2, h3⟩ := closed_eq hN h8 x hx
  refine ⟨c, h1, setP_ev c h2 s h8 (cl l x) (fun v v0 v1 => ?_)⟩
  rw [h3 v v0 v1, Bool.eq_iff_iff, Bool.and_eq_true, decide_eq_true_eq]
  exact ⟨fun h => ⟨(cl_out hG hx h).2, h⟩, fun h => h.2⟩

theorem most_eq (a b : Int) : spec_l1Most.f a b = some (if a < b then b else a) := by
  unfold spec_l1Most.f
  by_cases h : a > b
  · rw [if_pos h, if_neg (by omega)]
  · rw [if_neg h]
    by_cases h2 : a < b
    · rw [if_pos h2]
    · rw [if_neg h2, show a = b by omega]

theorem time_impl {s : Int} {l : List S75} {m : List Int} (hG : Gr.Good s l) (hN : Net s l m) (f : Int → Int) (r : Int) (hr : 0 ≤ r ∧ r < s) : Ev (fun k => impl_net_timeAfter.f k m ((V s).map f) r) (worst f (Bl s l r) 0) := by
  have h8 := hG.2.1
  obtain ⟨c, hc, hS⟩ := setof_bl hG hN r hr
  refine Cm.ev ?_
  unfold impl_net_timeAfter.f
  rw [hc]
  simp only [Option.bind_some]
  refine Cm.bindE hS ?_
  have hin := bl_bal (s := s) (l := l) r hr
  have hlen := bl_len (s := s) (l := l) (x := r)
  obtain ⟨L, hL⟩ : ∃ L, L = Bl s l r := ⟨_, rfl⟩
  rw [← hL] at hin hlen ⊢
  clear hL hS hc
  have hl : (((V s).map f).length : Int) = s := by rw [mapV_len]; omega
  refine Cm.up (fun k i b => impl_net_timeAfter.l0 k ((V s).map f) b L L.length i) L.length (fun i b => 0 ≤ i ∧ worst f (L.drop i.toNat) b = worst f L 0) _ ?_ 0 0 (by omega) ⟨by omega, rfl⟩
  rintro i b hi ⟨i0, hw⟩ ih
  by_cases h : i < (L.length : Int)
  · have hy := hin _ (rd_mem L i i0 h)
    rw [drop_rd L i i0 h] at hw
    have hrd := rd_mapV s f (rd L i) hy.1 hy.2
    by_cases hn : f (rd L i) < 0
    · refine Cm.step (fun k => by simp only [impl_net_timeAfter.l0, if_pos h, if_pos i0, if_pos hy.1, hl, if_pos hy.2, hrd, if_pos hn]; try rfl) (Cm.now ?_)
      rw [← hw]
      simp only [worst, if_pos hn]
    · refine Cm.step (fun k => by simp (disch := omega) only [impl_net_timeAfter.l0, if_pos h, if_pos i0, if_pos hy.1, hl, if_pos hy.2, hrd, if_neg hn, w64 (i + 1)]; try rfl) (ih _ h ⟨by omega, ?_⟩)
      rw [← hw]
      simp only [worst, if_neg hn]
      rfl
  · rw [List.drop_of_length_le (by omega)] at hw
    exact Cm.step (fun k => by simp only [impl_net_timeAfter.l0, if_neg h]; try rfl) (Cm.now hw)

theorem rowL {s : Int} (T : Int → Int → Int) (c : Int) (hc : 0 ≤ c ∧ c < s) : rd_L2 (mk s T) c = (V s).map (T c) := mk_row s T c hc.1 hc.2

theorem worst_spec (s : Int) (l : List S75) (hl : l.length ≤ 1048576) (hG : Gr.Good s l) (T : Int → Int → Int) (c r : Int) (hc : 0 ≤ c ∧ c < s) (hr : 0 ≤ r ∧ r < s) : Ev (fun k => spec_l3Worst.f k s l (mk s T) c r) (worst (T c) (Bl s l r) 0) := by
  have h8 := hG.2.1
  refine Cm.ev ?_
  unfold spec_l3Worst.f
  refine Cm.bindE (ball_ev s l hl hG r hr) ?_
  change Cm (fun k => spec_l3Worst.l0 k (mk s T) c 0 (Bl s l r) 0) _
  have hin := bl_bal (s := s) (l := l) r hr
  have hlen := bl_len (s := s) (l := l) (x := r)
  obtain ⟨L, hL⟩ : ∃ L, L = Bl s l r := ⟨_, rfl⟩
  rw [← hL] at hin hlen ⊢
  clear hL
  have hml : ((mk s T).length : Int) = s := by rw [mk_len]; omega
  have hrow := rowL T c hc
  have hrl : (((V s).map (T c)).length : Int) = s := by rw [mapV_len]; omega
  refine Cm.up (fun k i b => spec_l3Worst.l0 k (mk s T) c b L i) L.length (fun i b => 0 ≤ i ∧ worst (T c) (L.drop i.toNat) b = worst (T c) L 0) _ ?_ 0 0 (by omega) ⟨by omega, rfl⟩
  rintro i b hi ⟨i0, hw⟩ ih
  by_cases h : i < (L.length : Int)
  · have hy := hin _ (rd_mem L i i0 h)
    rw [drop_rd L i i0 h] at hw
    have hrd := rd_mapV s (T c) (rd L i) hy.1 hy.2
    by_cases hn : T c (rd L i) < 0
    · refine Cm.step (fun k => by simp only [spec_l3Worst.l0, if_pos h, if_pos hc.1, hml, if_pos hc.2, if_pos i0, if_pos hy.1, hrow, hrl, if_pos hy.2, hrd, if_pos hn]; try rfl) (Cm.now ?_)
      rw [← hw]
      simp only [worst, if_pos hn]
    · refine Cm.step (fun k => by simp (disch := omega) only [spec_l3Worst.l0, if_pos h, if_pos hc.1, hml, if_pos hc.2, if_pos i0, if_pos hy.1, hrow, hrl, if_pos hy.2, hrd, if_neg hn, most_eq, Option.bind_some, w64 (i + 1)]; try rfl) (ih _ h ⟨by omega, ?_⟩)
      rw [← hw]
      simp only [worst, if_neg hn]
  · rw [List.drop_of_length_le (by omega)] at hw
    exact Cm.step (fun k => by simp only [spec_l3Worst.l0, if_neg h]; try rfl) (Cm.now hw)

theorem after_spec (s : Int) (l : List S75) (hl : l.length ≤ 1048576) (hG : Gr.Good s l) (T : Int → Int → Int) (c r : Int) (hc : 0 ≤ c ∧ c < s) (hr : 0 ≤ r ∧ r < s) : Ev (fun k => spec_l3After.f k s l (mk s T) c r) (after T (Bl s l) c r) := by
  refine Cm.ev ?_
  unfold spec_l3After.f after
  by_cases e : c = r
  · rw [if_pos e]
    exact Cm.pos e (Cm.now rfl)
  · rw [if_neg e]
    exact Cm.neg e (Cm.bindE (worst_spec s l hl hG T c r hc hr) (Cm.now rfl))

theorem best_spec (s : Int) (l : List S75) (hl : l.length ≤ 1048576) (hG : Gr.Good s l) (T : Int → Int → Int) (c r : Int) (hc : 0 ≤ c ∧ c < s) (hr : 0 ≤ r ∧ r < s) : Cm (fun k => spec_l3Best.f k s l (mk s T) c r) (fun b => (0 ≤ b ↔ can T (Bl s l) c r = true) ∧ (0 ≤ b → ∃ y, y ∈ Bl s l c ∧ after T (Bl s l) y r = b)) := by
  have h8 := hG.2.1
  unfold spec_l3Best.f
  refine Cm.bindE (ball_ev s l hl hG c hc) ?_
  change Cm (fun k => spec_l3Best.l0 k (mk s T) r (-1) (Bl s l c) 0 s l) _
  have hin := bl_bal (s := s) (l := l) c hc
  have hlen := bl_len (s := s) (l := l) (x := c)
  have hcan := can_iff (T := T) (B := Bl s l) (c := c) (r := r)
  have haft := fun y (hy : 0 ≤ y ∧ y < s) => after_spec s l hl hG T y r hy hr
  obtain ⟨g, hg⟩ : ∃ g, g = fun y => after T (Bl s l) y r := ⟨_, rfl⟩
  have hg' : ∀ y, after T (Bl s l) y r = g y := fun y => by rw [hg]
  simp only [hg'] at haft hcan ⊢
  obtain ⟨L, hL⟩ : ∃ L, L = Bl s l c := ⟨_, rfl⟩
  rw [← hL] at hin hlen hcan ⊢
  clear hL hg hg'
  refine Cm.up (fun k i b => spec_l3Best.l0 k (mk s T) r b L i s l) L.length (fun i b => 0 ≤ i ∧ (0 ≤ b ↔ ∃ y, y ∈ L.take i.toNat ∧ 0 ≤ g y) ∧ (0 ≤ b → ∃ y, y ∈ L ∧ g y = b)) _ ?_ 0 (-1) (by omega) ⟨by omega, ⟨fun h => by omega, fun ⟨y, hy, _⟩ => by simp at hy⟩, fun h => by omega⟩
  rintro i b hi ⟨i0, hb1, hb2⟩ ih
  by_cases h : i < (L.length : Int)
  · have hm := rd_mem L i i0 h
    have hy := hin _ hm
    have ht := take_rd L i i0 h
    refine Cm.step (fun k => by simp (disch := omega) only [spec_l3Best.l0, if_pos h, if_pos i0, w64 (i + 1)]; try rfl) ?_
    refine Cm.bindE (haft _ hy) ?_
    have hnew : 0 ≤ g (rd L i) → ∃ y, y ∈ L.take (i + 1).toNat ∧ 0 ≤ g y := fun h0 => ⟨rd L i, by rw [ht]; simp, h0⟩
    have hold : ¬ 0 ≤ g (rd L i) → ((∃ y, y ∈ L.take (i + 1).toNat ∧ 0 ≤ g y) ↔ ∃ y, y ∈ L.take i.toNat ∧ 0 ≤ g y) := fun h0 => by
      rw [ht]
      constructor
      · rintro ⟨y, hy, h1⟩
        rcases List.mem_append.1 hy with h2 | h2
        · exact ⟨y, h2, h1⟩
        · rw [List.mem_singleton.1 h2] at h1
          exact (h0 h1).elim
      · rintro ⟨y, hy, h1⟩
        exact ⟨y, List.mem_append_left _ hy, h1⟩
    refine Cm.ite (fun e => ?_) (fun e => ih _ h ⟨by omega, ?_, hb2⟩)
    · refine Cm.ite (fun e2 => ih _ h ⟨by omega, ⟨fun _ => hnew e, fun _ => e⟩, fun _ => ⟨_, hm, rfl⟩⟩) (fun e2 => ?_)
      refine Cm.ite (fun e3 => ih _ h ⟨by omega, ⟨fun _ => hnew e, fun _ => e⟩, fun _ => ⟨_, hm, rfl⟩⟩) (fun e3 => ih _ h ⟨by omega, ⟨fun _ => hnew e, fun _ => by omega⟩, hb2⟩)
    · rw [hold e]
      exact hb1
  · refine Cm.step (fun k => by simp only [spec_l3Best.l0, if_neg h]; try rfl) (Cm.now ⟨?_, hb2⟩)
    rw [take_all L i (by omega)] at hb1
    rw [hb1, hcan]

theorem ev_each {α β : Type} (g : Nat → α → Option β) (v : α → β) : ∀ (L : List α), (∀ x, x ∈ L → Ev (fun k => g k x) (v x)) → ∃ K, ∀ k, K ≤ k → ∀ x, x ∈ L → g k x = some (v x)
  | [], _ => ⟨0, fun _ _ _ h => nomatch h⟩
  | a :: L, h => by
    obtain ⟨K, hK⟩ := ev_each g v L (fun x hx => h x (List.mem_cons_of_mem _ hx))
    obtain ⟨M, hM⟩ := h a List.mem_cons_self
    refine ⟨K + M, fun k hk x hx => ?_⟩
    rcases List.mem_cons.1 hx with rfl | hx
    · exact hM k (by omega)
    · exact hK k (by omega) x hx

theorem idx_any (p : Int → Bool) (L : List Int) : decide (idxF p L ≥ 0) = L.any p := by
  unfold idxF
  rw [Bool.eq_iff_iff, decide_eq_true_eq, List.any_eq_true]
  by_cases h : L.findIdx p < L.length
  · rw [if_pos h]
    exact ⟨fun _ => ⟨L[L.findIdx p], List.getElem_mem _, List.findIdx_getElem⟩, fun _ => by omega⟩
  · rw [if_neg h]
    exact ⟨fun h => by omega, fun ⟨x, hx, hp⟩ => (h (List.findIdx_lt_length_of_exists ⟨x, hx, hp⟩)).elim⟩

theorem can_impl {s : Int} {l : List S75} {m : List Int} (hG : Gr.Good s l) (hN : Net s l m) (T : Int → Int → Int) (c r : Int) (hc : 0 ≤ c ∧ c < s) (hr : 0 ≤ r ∧ r < s) : Ev (fun k => impl_net_copCan.f k m (mk s T) c r) (can T (Bl s l) c r) := by
  have h8 := hG.2.1
  obtain ⟨q, hq, hS⟩ := setof_bl hG hN c hc
  refine Cm.ev ?_
  unfold impl_net_copCan.f
  rw [hq]
  simp only [Option.bind_some]
  refine Cm.bindE hS ?_
  have hml : ((mk s T).length : Int) = s := by rw [mk_len]; omega
  have hin := bl_bal (s := s) (l := l) c hc
  have hlen := bl_len (s := s) (l := l) (x := c)
  obtain ⟨K, hK⟩ := ev_each (fun k x => impl_net_copCan_1.f k x r m (mk s T)) (fun x => decide (0 ≤ after T (Bl s l) x r)) (Bl s l c) (fun x hx => by
    have hx' := hin x hx
    refine Cm.ev ?_
    unfold impl_net_copCan_1.f after
    by_cases e : x = r
    · rw [if_pos e]
      exact Cm.pos e (Cm.now rfl)
    · rw [if_neg e]
      refine Cm.neg e (Cm.pos hx'.1 (Cm.pos (by omega) ?_))
      rw [rowL T x hx']
      exact Cm.bindE (time_impl hG hN (T x) r hr) (Cm.now rfl))
  refine ⟨_, ⟨K, fun k hk => ?_⟩, rfl⟩
  have e1 : ((Bl s l c).all fun x => (impl_net_copCan_1.f k x r m (mk s T)).isSome) = true := List.all_eq_true.2 (fun x hx => by rw [hK k hk x hx]; rfl)
  have e2 : idxF (fun x => (impl_net_copCan_1.f k x r m (mk s T)).getD false) (Bl s l c) = idxF (fun x => decide (0 ≤ after T (Bl s l) x r)) (Bl s l c) := idxF_congr (fun x hx => by rw [hK k hk x hx, Option.getD_some])
  dsimp only
  rw [if_pos ⟨by omega, e1⟩, e2, idx_any]
  rfl

end Go.Proofs.Ytmbgpbanbffchaa.Gr
