/- The moves of the cop and of the robber by a table of times, by both; no conditions beyond those that each theorem names. -/
import Derived.Test.YtmbgpbanbffchaaGrCs
import Derived.Test.YtmbgpbanbffchaaPxImplNetCopMove
import Derived.Test.YtmbgpbanbffchaaPxImplNetRobberMove
import Derived.Test.YtmbgpbanbffchaaPxSpecL3Chase
import Derived.Test.YtmbgpbanbffchaaPxSpecL3Flee
namespace Go.Proofs.Ytmbgpbanbffchaa.Gr
open Go.RowKit Go.Proofs.Ytmbgpbanbffchaa.P Go.Proofs.YtmbgpbanbffchaaW.PrintWords Go.Proofs.YtmbgpbanbffchaaW.PrintLast Go.Proofs.YtmbgpbanbffchaaW.PrintMore

theorem least_at {P : Int → Prop} {n : Int} (h : ∃ i, (0 ≤ i ∧ i < n) ∧ P i) : ∃ j, (0 ≤ j ∧ j < n) ∧ P j ∧ ∀ i, 0 ≤ i → i < j → ¬ P i := by
  obtain ⟨i, hi, hp⟩ := h
  suffices hh : ∀ d : Nat, (d : Int) < n → P d → ∃ j, (0 ≤ j ∧ j < n) ∧ P j ∧ ∀ i, 0 ≤ i → i < j → ¬ P i from hh i.toNat (by omega) (by rwa [Int.toNat_of_nonneg hi.1])
  intro d
  induction d using Nat.strongRecOn with
  | _ d ih =>
    intro hd hp
    by_cases hc : ∃ e : Nat, e < d ∧ P e
    · obtain ⟨e, he, hpe⟩ := hc
      exact ih e he (by omega) hpe
    · refine ⟨d, ⟨by omega, hd⟩, hp, fun i i0 hi hpi => hc ⟨i.toNat, by omega, ?_⟩⟩
      rwa [Int.toNat_of_nonneg i0]

theorem chase_both (s : Int) (l : List S75) (hl : l.length ≤ 1048576) (hG : Gr.Good s l) (m : List Int) (hN : Net s l m) (N : Int) (hN1 : N ≤ 100) (Z : Int → Int → Int) (hZ : Tim s (Bl s l) N Z) (c r : Int) (hc : 0 ≤ c ∧ c < s) (hr : 0 ≤ r ∧ r < s) (h1 : 1 ≤ Z c r) :
    ∃ y, y ∈ Bl s l c ∧ after Z (Bl s l) y r = Z c r - 1 ∧ Ev (fun k => spec_l3Chase.f k s l (mk s Z) c r) y ∧ Ev (fun k => impl_net_copMove.f k m (mk s Z) c r) y := by
  have h8 := hG.2.1
  have h0 := hG.1
  obtain ⟨y0, hy0, hya⟩ := hZ.c c r hc hr h1
  have hzn := (hZ.a c r hc hr).2.1
  have haft := fun y (hy : 0 ≤ y ∧ y < s) => after_spec s l hl hG Z y r hy hr
  have htim := fun y (_ : 0 ≤ y ∧ y < s) => time_impl hG hN (Z y) r hr
  have hale : ∀ y, 0 ≤ y ∧ y < s → after Z (Bl s l) y r ≤ N := fun y hy => after_le bl_bal hZ.n0 (fun c r hc hr => (hZ.a c r hc hr).2.1) hy hr
  have hdef : ∀ y, y ≠ r → after Z (Bl s l) y r = worst (Z y) (Bl s l r) 0 := fun y e => by unfold after; rw [if_neg e]
  have hself : after Z (Bl s l) r r = 0 := by unfold after; rw [if_pos rfl]
  have hwge : ∀ y, -1 ≤ worst (Z y) (Bl s l r) 0 := fun y => by
    by_cases hh : ∃ z, z ∈ Bl s l r ∧ Z y z < 0
    · rw [worst_neg _ _ hh]; omega
    · have := (worst_pos (f := Z y) (Bl s l r) 0 (fun z hz hn => hh ⟨z, hz, hn⟩)).1
      omega
  obtain ⟨q, hq, hS⟩ := setof_bl hG hN c hc
  have hB := ball_ev s l hl hG c hc
  have hin := bl_bal (s := s) (l := l) c hc
  have hlen := bl_len (s := s) (l := l) (x := c)
  change Ev (fun k => spec_l2Ball.f k s l c) (Bl s l c) at hB
  obtain ⟨L, hL⟩ : ∃ L, L = Bl s l c := ⟨_, rfl⟩
  rw [← hL] at hy0 hS hB hin hlen ⊢
  clear hL
  obtain ⟨i0, hi0, hi1, hi2⟩ := mem_rd hy0
  obtain ⟨j, hj, hpj, hno⟩ := least_at (P := fun i => after Z (Bl s l) (rd L i) r = Z c r - 1) (n := L.length) ⟨i0, ⟨hi0, hi1⟩, by rw [hi2]; exact hya⟩
  have hml : ((mk s Z).length : Int) = s := by rw [mk_len, Int.toNat_of_nonneg h0]
  have hrow := rowL Z c hc
  have hrl : (((V s).map (Z c)).length : Int) = s := by rw [mapV_len, Int.toNat_of_nonneg h0]
  have hrd := rd_mapV s (Z c) r hr.1 hr.2
  refine ⟨rd L j, rd_mem L j hj.1 hj.2, hpj, Cm.ev ?_, Cm.ev ?_⟩
  · unfold spec_l3Chase.f
    refine Cm.bindE hB ?_
    refine Cm.up (fun k i (_ : Unit) => spec_l3Chase.l0 k (mk s Z) c r L i s l) j (fun i _ => 0 ≤ i) _ ?_ 0 () hj.1 (Int.le_refl _)
    rintro i - hij i0 ih
    have hi : i < (L.length : Int) := by omega
    have hy := hin _ (rd_mem L i i0 hi)
    refine Cm.step (fun k => by simp (disch := omega) only [spec_l3Chase.l0, if_pos i0, if_pos hi, if_pos hc.1, hml, if_pos hc.2, if_pos hr.1, hrow, hrl, if_pos hr.2, hrd, w64 (i + 1), w64 (Z c r - 1)]; try rfl) ?_
    refine Cm.bindE (haft _ hy) ?_
    by_cases e : i = j
    · rw [e]
      exact Cm.pos hpj (Cm.now rfl)
    · exact Cm.neg (hno i i0 (by omega)) (ih () (by omega) (by omega))
  · unfold impl_net_copMove.f
    rw [hq]
    simp only [Option.bind_some]
    refine Cm.bindE hS ?_
    refine Cm.up (fun k i (_ : Unit) => impl_net_copMove.l0 k (mk s Z) c r L L.length i m) j (fun i _ => 0 ≤ i) _ ?_ 0 () hj.1 (Int.le_refl _)
    rintro i - hij i0 ih
    have hi : i < (L.length : Int) := by omega
    have hy := hin _ (rd_mem L i i0 hi)
    have hyrow := rowL Z (rd L i) hy
    have hyle := hale _ hy
    have hyge := hwge (rd L i)
    refine Cm.step (fun k => by simp (disch := omega) only [impl_net_copMove.l0, if_pos i0, if_pos hi, if_pos hc.1, hml, if_pos hc.2, if_pos hr.1, hrow, hrl, if_pos hr.2, hrd, if_pos hy.1, if_pos hy.2, hyrow, w64 (i + 1)]; try rfl) ?_
    by_cases e2 : rd L i = r
    · refine Cm.pos e2 ?_
      by_cases e : i = j
      · rw [← e, e2, hself] at hpj
        rw [e]
        rw [e] at e2
        exact Cm.pos (by omega) (Cm.now rfl)
      · have hn := hno i i0 (by omega)
        rw [e2, hself] at hn
        exact Cm.neg (by omega) (ih () (by omega) (by omega))
    · have hd := hdef _ e2
      refine Cm.neg e2 (Cm.bindE (htim _ hy) ?_)
      rw [w64 (worst (Z (rd L i)) (Bl s l r) 0 + 1) (by omega) (by omega)]
      by_cases e : i = j
      · rw [← e, hd] at hpj
        refine Cm.pos (by omega) (Cm.pos (by omega) (Cm.now ?_))
        rw [e]
      · have hn := hno i i0 (by omega)
        rw [hd] at hn
        exact Cm.neg (by omega) (ih () (by omega) (by omega))

/-- The node to which the robber moves, by the values of a row. -/
def pick (f : Int → Int) : List Int → Int → Int
  | [], b => b
  | y :: L, b => if 0 ≤ f b ∧ (f y < 0 ∨ f b < f y) then pick f L y else pick f L b
theorem pick_cons (f : Int → Int) (y : Int) (L : List Int) (b : Int) : pick f (y :: L) b = if 0 ≤ f b ∧ (f y < 0 ∨ f b < f y) then pick f L y else pick f L b := rfl
theorem pick_neg {f : Int → Int} : ∀ (L : List Int) (b : Int), f b < 0 → pick f L b = b
  | [], _, _ => rfl
  | y :: L, b, h => by
    unfold pick
    rw [if_neg (fun hh => by omega)]
    exact pick_neg L b h
theorem pick_mem {f : Int → Int} : ∀ (L : List Int) (b : Int), pick f L b = b ∨ pick f L b ∈ L
  | [], _ => .inl rfl
  | y :: L, b => by
    unfold pick
    by_cases h : 0 ≤ f b ∧ (f y < 0 ∨ f b < f y)
    · rw [if_pos h]
      rcases pick_mem (f := f) L y with h | h
      · exact .inr (by rw [h]; exact List.mem_cons_self)
      · exact .inr (List.mem_cons_of_mem _ h)
    · rw [if_neg h]
      rcases pick_mem (f := f) L b with h | h
      · exact .inl h
      · exact .inr (List.mem_cons_of_mem _ h)

theorem flee_both (s : Int) (l : List S75) (hl : l.length ≤ 1048576) (hG : Gr.Good s l) (m : List Int) (hN : Net s l m) (Z : Int → Int → Int) (c r : Int) (hc : 0 ≤ c ∧ c < s) (hr : 0 ≤ r ∧ r < s) :
    ∃ y, y ∈ Bl s l r ∧ Ev (fun k => spec_l3Flee.f k s l (mk s Z) c r) y ∧ Ev (fun k => impl_net_robberMove.f k m (rd_L2 (mk s Z) c) r) y := by
  have h8 := hG.2.1
  have h0 := hG.1
  obtain ⟨q, hq, hS⟩ := setof_bl hG hN r hr
  have hB := ball_ev s l hl hG r hr
  have hin := bl_bal (s := s) (l := l) r hr
  have hlen := bl_len (s := s) (l := l) (x := r)
  have hne := List.length_pos_of_mem (bl_self (l := l) hr)
  change Ev (fun k => spec_l2Ball.f k s l r) (Bl s l r) at hB
  obtain ⟨L, hL⟩ : ∃ L, L = Bl s l r := ⟨_, rfl⟩
  rw [← hL] at hS hB hin hlen hne ⊢
  clear hL
  have hml : ((mk s Z).length : Int) = s := by rw [mk_len, Int.toNat_of_nonneg h0]
  have hrow := rowL Z c hc
  have hrl : (((V s).map (Z c)).length : Int) = s := by rw [mapV_len, Int.toNat_of_nonneg h0]
  obtain ⟨f, hf⟩ : ∃ f, f = Z c := ⟨_, rfl⟩
  rw [← hf] at hrow hrl
  have hrd := fun y (hy : 0 ≤ y ∧ y < s) => rd_mapV s f y hy.1 hy.2
  clear hf
  have hb0 := rd_mem L 0 (by omega) (by omega)
  refine ⟨pick f (L.drop 1) (rd L 0), ?_, Cm.ev ?_, Cm.ev ?_⟩
  · rcases pick_mem (f := f) (L.drop 1) (rd L 0) with h | h
    · rw [h]; exact hb0
    · exact List.mem_of_mem_drop h
  · unfold spec_l3Flee.f
    refine Cm.bindE hB (Cm.pos (by omega) ?_)
    have hfirst : L.drop (0 : Int).toNat = rd L 0 :: L.drop 1 := drop_rd L 0 (by omega) (by omega)
    refine Cm.up (fun k i b => spec_l3Flee.l0 k (mk s Z) c L b i) L.length (fun i b => 0 ≤ i ∧ b ∈ L ∧ ((0 < i ∧ 0 ≤ f b ∧ pick f (L.drop i.toNat) b = pick f (L.drop 1) (rd L 0)) ∨ (i = 0 ∧ b = rd L 0))) _ ?_ 0 (rd L 0) (by omega) ⟨by omega, hb0, .inr ⟨rfl, rfl⟩⟩
    rintro i b hi ⟨i0, hbm, hst⟩ ih
    by_cases h : i < (L.length : Int)
    · have hm := rd_mem L i i0 h
      have hy := hin _ hm
      have hb := hin _ hbm
      have hdr := drop_rd L i i0 h
      by_cases hn : f (rd L i) < 0
      · refine Cm.step (fun k => by simp only [spec_l3Flee.l0, if_pos h, if_pos hc.1, hml, if_pos hc.2, if_pos i0, if_pos hy.1, hrow, hrl, if_pos hy.2, hrd _ hy, if_pos hn]; try rfl) (Cm.now ?_)
        rcases hst with ⟨hi0, hfb, hp⟩ | ⟨rfl, rfl⟩
        · rw [← hp, hdr]
          unfold pick
          rw [if_pos ⟨hfb, .inl hn⟩, pick_neg _ _ hn]
        · rw [pick_neg _ _ hn]
      · refine Cm.step (fun k => by simp (disch := omega) only [spec_l3Flee.l0, if_pos h, if_pos hc.1, hml, if_pos hc.2, if_pos i0, if_pos hy.1, hrow, hrl, if_pos hy.2, hrd _ hy, if_neg hn, if_pos hb.1, if_pos hb.2, hrd _ hb, w64 (i + 1)]; try rfl) ?_
        rcases hst with ⟨hi0, hfb, hp⟩ | ⟨rfl, rfl⟩
        · rw [hdr] at hp
          rw [pick_cons] at hp
          refine Cm.ite (fun e => ih _ h ⟨by omega, hm, .inl ⟨by omega, by omega, ?_⟩⟩) (fun e => ih _ h ⟨by omega, hbm, .inl ⟨by omega, hfb, ?_⟩⟩)
          · rw [if_pos ⟨hfb, .inr (by omega)⟩] at hp
            exact hp
          · rw [if_neg (fun hh => by omega)] at hp
            exact hp
        · exact Cm.neg (by omega) (ih _ h ⟨by omega, hbm, .inl ⟨by omega, by omega, rfl⟩⟩)
    · refine Cm.step (fun k => by simp only [spec_l3Flee.l0, if_neg h]; try rfl) (Cm.now ?_)
      rcases hst with ⟨hi0, hfb, hp⟩ | ⟨rfl, rfl⟩
      · rw [List.drop_of_length_le (by omega)] at hp
        exact hp
      · omega
  · unfold impl_net_robberMove.f
    rw [hq]
    simp only [Option.bind_some]
    refine Cm.bindE hS (Cm.pos (by omega) (Cm.pos (by omega) ?_))
    rw [hrow]
    have hdl : ∀ y, y ∈ L.drop 1 → y ∈ L := fun y hy => List.mem_of_mem_drop hy
    obtain ⟨D, hD⟩ : ∃ D, D = L.drop 1 := ⟨_, rfl⟩
    have hdlen : D.length ≤ L.length := by rw [hD, List.length_drop]; omega
    rw [← hD] at hdl ⊢
    refine Cm.up (fun k i b => impl_net_robberMove.l0 k ((V s).map f) b D D.length i) D.length (fun i b => 0 ≤ i ∧ b ∈ L ∧ pick f (D.drop i.toNat) b = pick f D (rd L 0)) _ ?_ 0 (rd L 0) (by omega) ⟨by omega, hb0, rfl⟩
    rintro i b hi ⟨i0, hbm, hp⟩ ih
    have hb := hin _ hbm
    by_cases h : i < (D.length : Int)
    · have hm := hdl _ (rd_mem D i i0 h)
      have hy := hin _ hm
      rw [drop_rd D i i0 h] at hp
      rw [pick_cons] at hp
      refine Cm.step (fun k => by simp (disch := omega) only [impl_net_robberMove.l0, if_pos h, if_pos i0, if_pos hb.1, hrl, if_pos hb.2, hrd _ hb, if_pos hy.1, if_pos hy.2, hrd _ hy, w64 (i + 1)]; try rfl) ?_
      refine Cm.ite (fun e => ?_) (fun e => ih _ h ⟨by omega, hbm, ?_⟩)
      · refine Cm.ite (fun e2 => ih _ h ⟨by omega, hm, ?_⟩) (fun e2 => Cm.ite (fun e3 => ih _ h ⟨by omega, hm, ?_⟩) (fun e3 => ih _ h ⟨by omega, hbm, ?_⟩))
        · rw [if_pos ⟨by omega, .inl e2⟩] at hp; exact hp
        · rw [if_pos ⟨by omega, .inr (by omega)⟩] at hp; exact hp
        · rw [if_neg (fun hh => by omega)] at hp; exact hp
      · rw [if_neg (fun hh => by omega)] at hp; exact hp
    · rw [List.drop_of_length_le (by omega)] at hp
      exact Cm.step (fun k => by simp only [impl_net_robberMove.l0, if_neg h]; try rfl) (Cm.now hp)

end Go.Proofs.Ytmbgpbanbffchaa.Gr
