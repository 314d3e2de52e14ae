/- The game of one cop: both come to one table of times; no conditions beyond those that each theorem names. -/
import Derived.Test.YtmbgpbanbffchaaGrCr
namespace Go.Proofs.Ytmbgpbanbffchaa.Gr
open Go.RowKit Go.Proofs.Ytmbgpbanbffchaa.P Go.Proofs.YtmbgpbanbffchaaW.PrintWords Go.Proofs.YtmbgpbanbffchaaW.PrintLast Go.Proofs.YtmbgpbanbffchaaW.PrintMore

theorem nxt_none {s : Int} {l : List S75} {n : Int} {T : Int → Int → Int} (h : ¬ Due s l T) : mk s (nxt n T (Bl s l)) = mk s T := mk_ext (fun c r hc hr => by
  unfold nxt
  rw [if_neg (fun hd => h ⟨c, r, hc, hr, hd⟩)])

theorem loops (s : Int) (l : List S75) (hl : l.length ≤ 1048576) (hG : Gr.Good s l) (m : List Int) (hN : Net s l m) : ∀ (d : Nat) (n : Int) (T : Int → Int → Int), negs s T ≤ d → n + d ≤ 100 → Tim s (Bl s l) n T →
    ∃ N Z, N ≤ 100 ∧ Tim s (Bl s l) N Z ∧ Cm (fun k => spec_l3Times.l2 k (mk s T) true s l) (fun t => t = mk s Z) ∧ Cm (fun k => impl_net_copTimes.l1 k s (mk s T) (n + 1) true m) (fun t => t = mk s Z) := by
  intro d
  induction d with
  | zero =>
    intro n T hd hn hT
    have n0 := hT.n0
    have hno : ¬ Due s l T := fun ⟨c, r, hc, hr, h⟩ => by
      have := negs_next (n := n) n0 ⟨c, r, hc, hr, h⟩
      omega
    refine ⟨n, T, by omega, hT, spec_round s l hl hG n T hT (by omega) _ (fun fl hf => ?_), impl_round s l hG m hN n T hT (by omega) _ (fun fl hf => ?_)⟩
    · cases fl with
      | true => exact (hno (hf.1 rfl)).elim
      | false => rw [nxt_none hno]; exact Cm.step (fun k => by simp only [spec_l3Times.l2, Bool.false_eq_true, if_false]; try rfl) (Cm.now rfl)
    · cases fl with
      | true => exact (hno (hf.1 rfl)).elim
      | false => rw [nxt_none hno]; exact Cm.step (fun k => by simp only [impl_net_copTimes.l1, Bool.false_eq_true, if_false]; try rfl) (Cm.now rfl)
  | succ d ih =>
    intro n T hd hn hT
    have n0 := hT.n0
    by_cases hq : Due s l T
    · have hlt := negs_next (n := n) n0 (show ∃ c r, (0 ≤ c ∧ c < s) ∧ (0 ≤ r ∧ r < s) ∧ due T (Bl s l) c r from hq)
      obtain ⟨N, Z, hN1, hZ, e1, e2⟩ := ih (n + 1) (nxt n T (Bl s l)) (by omega) (by omega) (tim_next bl_bal hT)
      refine ⟨N, Z, hN1, hZ, spec_round s l hl hG n T hT (by omega) _ (fun fl hf => ?_), impl_round s l hG m hN n T hT (by omega) _ (fun fl hf => ?_)⟩
      · rw [hf.2 hq]; exact e1
      · rw [hf.2 hq, show n + 2 = n + 1 + 1 by omega]; exact e2
    · refine ⟨n, T, by omega, hT, spec_round s l hl hG n T hT (by omega) _ (fun fl hf => ?_), impl_round s l hG m hN n T hT (by omega) _ (fun fl hf => ?_)⟩
      · cases fl with
        | true => exact (hq (hf.1 rfl)).elim
        | false => rw [nxt_none hq]; exact Cm.step (fun k => by simp only [spec_l3Times.l2, Bool.false_eq_true, if_false]; try rfl) (Cm.now rfl)
      · cases fl with
        | true => exact (hq (hf.1 rfl)).elim
        | false => rw [nxt_none hq]; exact Cm.step (fun k => by simp only [impl_net_copTimes.l1, Bool.false_eq_true, if_false]; try rfl) (Cm.now rfl)

theorem spec_start (s : Int) (l : List S75) (h0 : 0 ≤ s) (h8 : s ≤ 8) (Q : List (List Int) → Prop) (hQ : Cm (fun k => spec_l3Times.l2 k (mk s tim0) true s l) Q) : Cm (fun k => spec_l3Times.f k s l) Q := by
  unfold spec_l3Times.f
  refine Cm.up (fun k c (rows : List (List Int)) => spec_l3Times.l0 k rows c s l) s (fun c rows => 0 ≤ c ∧ rows = (V c).map (fun a => (V s).map (tim0 a))) _ ?_ 0 [] h0 ⟨by omega, rfl⟩
  rintro c rows hcs ⟨c0, rfl⟩ ih
  by_cases hc : c < s
  · refine Cm.step (fun k => by simp only [spec_l3Times.l0, if_pos hc]; try rfl) ?_
    refine Cm.up (fun k r (row : List Int) => spec_l3Times.l1 k ((V c).map (fun a => (V s).map (tim0 a))) c row r s l) s (fun r row => 0 ≤ r ∧ row = (V r).map (tim0 c)) _ ?_ 0 [] h0 ⟨by omega, rfl⟩
    rintro r row hrs ⟨r0, rfl⟩ ihr
    have hl1 : ((V r).map (tim0 c)).length = r.toNat := mapV_len r _
    by_cases hr : r < s
    · have hs : spec_l3Sign.f (c == r) = some (tim0 c r) := by
        unfold spec_l3Sign.f tim0
        by_cases e : c = r
        · rw [if_pos (beq_iff_eq.2 e), if_pos e]
        · rw [if_neg (fun h => e (beq_iff_eq.1 h)), if_neg e]
      refine Cm.step (fun k => by simp (disch := omega) only [spec_l3Times.l1, if_pos hr, hs, Option.bind_some, w64 (r + 1)]; try rfl) (Cm.pos (by omega) (ihr _ hr ⟨by omega, ?_⟩))
      rw [V_succ r0, List.map_append]
      rfl
    · have hl2 : ((V c).map (fun a => (V s).map (tim0 a))).length = c.toNat := mapV_len c _
      refine Cm.step (fun k => by simp (disch := omega) only [spec_l3Times.l1, if_neg hr, w64 (c + 1)]; try rfl) (Cm.pos (by omega) (ih _ hc ⟨by omega, ?_⟩))
      rw [V_succ c0, List.map_append, show r = s by omega]
      rfl
  · refine Cm.step (fun k => by simp only [spec_l3Times.l0, if_neg hc]; try rfl) ?_
    rw [show c = s by omega]
    exact hQ

theorem impl_start (s : Int) (m : List Int) (hm : (m.length : Int) = s) (h8 : s ≤ 8) (Q : List (List Int) → Prop) (hQ : Cm (fun k => impl_net_copTimes.l1 k s (mk s tim0) 1 true m) Q) : Cm (fun k => impl_net_copTimes.f k m) Q := by
  have h0 : 0 ≤ s := by omega
  unfold impl_net_copTimes.f impl_net_size.f
  rw [hm]
  simp only [Option.bind_some]
  refine Cm.pos h0 (Cm.pos (by omega) ?_)
  have hst : List.replicate s.toNat ([] : List Int) = (V s).map (fun a => if a < 0 then (V s).map (tim0 a) else []) := by
    rw [show (V s).map (fun a => if a < 0 then (V s).map (tim0 a) else []) = (V s).map (fun _ => ([] : List Int)) from mapV_congr (fun a ha => if_neg (by omega)), List.map_const', V_len]
  rw [hst, mapV_len, Int.toNat_of_nonneg h0]
  refine Cm.up (fun k c (t : List (List Int)) => impl_net_copTimes.l0 k s t s c m) s (fun c t => 0 ≤ c ∧ t = (V s).map (fun a => if a < c then (V s).map (tim0 a) else [])) _ ?_ 0 _ h0 ⟨by omega, rfl⟩
  rintro c t hcs ⟨c0, rfl⟩ ih
  by_cases hc : c < s
  · have hrep : slices_Repeat_int_int.f ([-1] : List Int) s = some ((V s).map (fun _ => (-1 : Int))) := by
      unfold slices_Repeat_int_int.f
      rw [if_pos ⟨rfl, h0, h8⟩, List.map_const', V_len]
      rfl
    have hl1 : ((((V s).map (fun a => if a < c then (V s).map (tim0 a) else [])).length : Nat) : Int) = s := by rw [mapV_len, Int.toNat_of_nonneg h0]
    have hs1 : ((V s).map (fun a => if a < c then (V s).map (tim0 a) else ([] : List Int))).set c.toNat ((V s).map (fun _ => (-1 : Int))) = (V s).map (fun a => if a = c then (V s).map (fun _ => (-1 : Int)) else if a < c then (V s).map (tim0 a) else []) := mapV_set s _ c _ c0
    have hrow : rd_L2 ((V s).map (fun a => if a = c then (V s).map (fun _ => (-1 : Int)) else if a < c then (V s).map (tim0 a) else [])) c = (V s).map (fun _ => (-1 : Int)) := by
      refine (mapV_get s _ c [] c0 hc).trans ?_
      rw [if_pos rfl]
    have hrl : ((((V s).map (fun _ => (-1 : Int))).length : Nat) : Int) = s := by rw [mapV_len, Int.toNat_of_nonneg h0]
    have hs2 : ((V s).map (fun _ => (-1 : Int))).set c.toNat 0 = (V s).map (tim0 c) := by
      rw [mapV_set s _ c 0 c0]
      refine mapV_congr (fun b _ => ?_)
      unfold tim0
      by_cases e : b = c
      · rw [if_pos e, if_pos e.symm]
      · rw [if_neg e, if_neg (fun h => e h.symm)]
    have hs3 : ((V s).map (fun a => if a = c then (V s).map (fun _ => (-1 : Int)) else if a < c then (V s).map (tim0 a) else ([] : List Int))).set c.toNat ((V s).map (tim0 c)) = (V s).map (fun a => if a < c + 1 then (V s).map (tim0 a) else []) := by
      rw [mapV_set s _ c _ c0]
      refine mapV_congr (fun a _ => ?_)
      by_cases e : a = c
      · rw [if_pos e, if_pos (by omega), e]
      · rw [if_neg e, if_neg e]
        by_cases e2 : a < c
        · rw [if_pos e2, if_pos (by omega)]
        · rw [if_neg e2, if_neg (by omega)]
    refine Cm.step (fun k => by simp (disch := omega) only [impl_net_copTimes.l0, if_pos hc, hrep, Option.bind_some, if_pos c0, hl1, hs1, hrow, hrl, hs2, hs3, w64 (c + 1)]; try rfl) (ih _ hc ⟨by omega, rfl⟩)
  · refine Cm.step (fun k => by simp only [impl_net_copTimes.l0, if_neg hc]; try rfl) ?_
    have e : (V s).map (fun a => if a < c then (V s).map (tim0 a) else ([] : List Int)) = mk s tim0 := mapV_congr (fun a ha => if_pos (by omega))
    rw [e]
    exact hQ

/-- Both come to one table, and what it tells. -/
theorem times_both (s : Int) (l : List S75) (hl : l.length ≤ 1048576) (hG : Gr.Good s l) (m : List Int) (hN : Net s l m) : ∃ N Z, N ≤ 100 ∧ Tim s (Bl s l) N Z ∧ Ev (fun k => spec_l3Times.f k s l) (mk s Z) ∧ Ev (fun k => impl_net_copTimes.f k m) (mk s Z) := by
  have h8 := hG.2.1
  have h0 := hG.1
  have hle : negs s tim0 ≤ 64 := Nat.le_trans (List.length_filter_le _ _) (sits_len h0 h8)
  obtain ⟨N, Z, hN1, hZ, e1, e2⟩ := loops s l hl hG m hN 64 0 tim0 hle (by omega) (tim_start bl_bal)
  exact ⟨N, Z, hN1, hZ, Cm.ev (spec_start s l h0 h8 _ e1), Cm.ev (impl_start s m hN.1.1 h8 _ e2)⟩

end Go.Proofs.Ytmbgpbanbffchaa.Gr
