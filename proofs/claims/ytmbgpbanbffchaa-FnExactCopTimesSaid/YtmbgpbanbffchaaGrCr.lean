/- The game of one cop: the rounds of both, and that they come to one table; no conditions beyond those that each theorem names. -/
import Derived.Test.YtmbgpbanbffchaaGrCp
import Derived.Test.YtmbgpbanbffchaaPxImplNetCopTimes
import Derived.Test.YtmbgpbanbffchaaPxNetA
import Derived.Test.YtmbgpbanbffchaaPxSpecL3A
import Derived.Test.YtmbgpbanbffchaaPxSpecL3Times
namespace Go.Proofs.Ytmbgpbanbffchaa.Gr
open Go.RowKit Go.Proofs.Ytmbgpbanbffchaa.P Go.Proofs.YtmbgpbanbffchaaW.PrintWords Go.Proofs.YtmbgpbanbffchaaW.PrintLast Go.Proofs.YtmbgpbanbffchaaW.PrintMore

/-- Whether a round gives a time at all. -/
def Due (s : Int) (l : List S75) (T : Int → Int → Int) : Prop := ∃ c r, (0 ≤ c ∧ c < s) ∧ (0 ≤ r ∧ r < s) ∧ due T (Bl s l) c r

theorem spec_round (s : Int) (l : List S75) (hl : l.length ≤ 1048576) (hG : Gr.Good s l) (n : Int) (T : Int → Int → Int) (hT : Tim s (Bl s l) n T) (hn : n ≤ 1000) (Q : List (List Int) → Prop)
    (h : ∀ fl : Bool, (fl = true ↔ Due s l T) → Cm (fun k => spec_l3Times.l2 k (mk s (nxt n T (Bl s l))) fl s l) Q) : Cm (fun k => spec_l3Times.l2 k (mk s T) true s l) Q := by
  have h8 := hG.2.1
  have h0 := hG.1
  have n0 := hT.n0
  have hml : ((mk s T).length : Int) = s := by rw [mk_len]; omega
  refine Cm.step (fun k => by simp only [spec_l3Times.l2, if_true]; try rfl) ?_
  obtain ⟨X, hX⟩ : ∃ X, X = nxt n T (Bl s l) := ⟨_, rfl⟩
  have hXd : ∀ c r, due T (Bl s l) c r → X c r = n + 1 := fun c r hd => by rw [hX]; unfold nxt; rw [if_pos hd]
  have hXn : ∀ c r, ¬ due T (Bl s l) c r → X c r = T c r := fun c r hd => by rw [hX]; unfold nxt; rw [if_neg hd]
  rw [← hX] at h
  clear hX
  refine Cm.up (fun k c (z : Bool × List (List Int)) => spec_l3Times.l3 k (mk s T) z.1 z.2 c s l) s (fun c z => 0 ≤ c ∧ z.2 = (V c).map (fun a => (V s).map (X a)) ∧ (z.1 = true ↔ ∃ a r, (0 ≤ a ∧ a < c) ∧ (0 ≤ r ∧ r < s) ∧ due T (Bl s l) a r)) _ ?_ 0 (false, []) h0 ⟨by omega, rfl, ⟨fun h => Bool.noConfusion h, fun ⟨a, _, ha, _⟩ => by omega⟩⟩
  rintro c ⟨fl, rows⟩ hcs ⟨c0, hrows, hfl⟩ ih
  dsimp only at hrows hfl ⊢
  subst hrows
  by_cases hc : c < s
  · have hrow := rowL T c ⟨c0, hc⟩
    have hrl : (((V s).map (T c)).length : Nat) = s.toNat := mapV_len s (T c)
    have hown : spec_l1Own.f ((V s).map (T c)) = some ((V s).map (T c)) := by
      unfold spec_l1Own.f
      rw [Option.bind_some, if_pos (by simp only [List.length_nil, Nat.zero_add, mapV_len]; omega), List.nil_append]
    refine Cm.step (fun k => by simp only [spec_l3Times.l3, if_pos hc, if_pos c0, hml, hrow, hown, Option.bind_some]; try rfl) ?_
    refine Cm.up (fun k r (z : Bool × List Int) => spec_l3Times.l4 k (mk s T) z.1 ((V c).map (fun a => (V s).map (X a))) c z.2 r s l) s (fun r z => 0 ≤ r ∧ z.2 = (V s).map (fun b => if b < r then X c b else T c b) ∧ (z.1 = true ↔ (∃ a r, (0 ≤ a ∧ a < c) ∧ (0 ≤ r ∧ r < s) ∧ due T (Bl s l) a r) ∨ ∃ b, (0 ≤ b ∧ b < r) ∧ due T (Bl s l) c b)) _ ?_ 0 (fl, (V s).map (T c)) h0 ⟨by omega, mapV_congr (fun b hb => by rw [if_neg (by omega)]), hfl.trans ⟨.inl, fun h => h.elim id (fun ⟨b, hb, _⟩ => (Int.lt_irrefl 0 (Int.lt_of_le_of_lt hb.1 hb.2)).elim)⟩⟩
    rintro r ⟨f2, row⟩ hrs ⟨r0, hrow2, hf2⟩ ihr
    dsimp only at hrow2 hf2 ⊢
    subst hrow2
    by_cases hr : r < s
    · have hlen : ((((V s).map (fun b => if b < r then X c b else T c b)).length : Nat) : Int) = s := by rw [mapV_len]; exact Int.toNat_of_nonneg h0
      have hrd : rd ((V s).map (fun b => if b < r then X c b else T c b)) r = T c r := by rw [rd_mapV s _ r r0 hr, if_neg (by omega)]
      have hnx : ∀ x, x = X c r → ((V s).map (fun b => if b < r then X c b else T c b)).set r.toNat x = (V s).map (fun b => if b < r + 1 then X c b else T c b) := fun x hx => by
        rw [mapV_set s _ r x r0, hx]
        refine mapV_congr (fun b _ => ?_)
        by_cases e : b = r
        · rw [if_pos e, if_pos (by omega), e]
        · rw [if_neg e]
          by_cases e2 : b < r
          · rw [if_pos e2, if_pos (by omega)]
          · rw [if_neg e2, if_neg (by omega)]
      have hst : X c r = T c r → (V s).map (fun b => if b < r then X c b else T c b) = (V s).map (fun b => if b < r + 1 then X c b else T c b) := fun hx => mapV_congr (fun b _ => by
        by_cases e : b = r
        · rw [if_neg (by omega), if_pos (by omega), e, hx]
        · by_cases e2 : b < r
          · rw [if_pos e2, if_pos (by omega)]
          · rw [if_neg e2, if_neg (by omega)])
      have hmore : due T (Bl s l) c r → (true = true ↔ (∃ a r, (0 ≤ a ∧ a < c) ∧ (0 ≤ r ∧ r < s) ∧ due T (Bl s l) a r) ∨ ∃ b, (0 ≤ b ∧ b < r + 1) ∧ due T (Bl s l) c b) := fun hd => ⟨fun _ => .inr ⟨r, by omega, hd⟩, fun _ => rfl⟩
      have hsame : ¬ due T (Bl s l) c r → (f2 = true ↔ (∃ a r, (0 ≤ a ∧ a < c) ∧ (0 ≤ r ∧ r < s) ∧ due T (Bl s l) a r) ∨ ∃ b, (0 ≤ b ∧ b < r + 1) ∧ due T (Bl s l) c b) := fun hd => hf2.trans ⟨fun h => h.elim .inl (fun ⟨b, hb, h⟩ => .inr ⟨b, by omega, h⟩), fun h => h.elim .inl (fun ⟨b, hb, h⟩ => by
        by_cases e : b = r
        · rw [e] at h; exact (hd h).elim
        · exact .inr ⟨b, by omega, h⟩)⟩
      refine Cm.step (fun k => by simp (disch := omega) only [spec_l3Times.l4, if_pos hr, if_pos r0, hlen, hrd, w64 (r + 1)]; try rfl) ?_
      refine Cm.bind (best_spec s l hl hG T c r ⟨c0, hc⟩ ⟨r0, hr⟩) (fun b hb => ?_)
      refine Cm.ite (fun hneg => ?_) (fun hneg => ?_)
      · refine Cm.ite (fun hb0 => ?_) (fun hb0 => ?_)
        · have hd : due T (Bl s l) c r := ⟨hneg, hb.1.1 hb0⟩
          obtain ⟨y, hy, hyb⟩ := hb.2 hb0
          have hbn : b = n := by
            have := hT.b c r ⟨c0, hc⟩ ⟨r0, hr⟩ hneg y hy (by omega)
            omega
          rw [hnx _ (by rw [w64 _ (by omega) (by omega), hbn, hXd c r hd])]
          exact ihr (true, _) hr ⟨by omega, rfl, hmore hd⟩
        · have hd : ¬ due T (Bl s l) c r := fun hd => hb0 (hb.1.2 hd.2)
          rw [hst (hXn c r hd)]
          exact ihr (f2, _) hr ⟨by omega, rfl, hsame hd⟩
      · have hd : ¬ due T (Bl s l) c r := fun hd => hneg hd.1
        rw [hst (hXn c r hd)]
        exact ihr (f2, _) hr ⟨by omega, rfl, hsame hd⟩
    · have hll : (((V c).map (fun a => (V s).map (X a))).length : Nat) = c.toNat := mapV_len c _
      refine Cm.step (fun k => by simp (disch := omega) only [spec_l3Times.l4, if_neg hr, w64 (c + 1)]; try rfl) (Cm.pos (by omega) ?_)
      have e1 : (V s).map (fun b => if b < r then X c b else T c b) = (V s).map (X c) := mapV_congr (fun b hb => if_pos (by omega))
      rw [e1, show (V c).map (fun a => (V s).map (X a)) ++ [(V s).map (X c)] = (V (c + 1)).map (fun a => (V s).map (X a)) by rw [V_succ c0, List.map_append]; rfl]
      refine ih (f2, _) hc ⟨by omega, rfl, hf2.trans ⟨?_, ?_⟩⟩
      · rintro (⟨a, b, ha, hb, hd⟩ | ⟨b, hb, hd⟩)
        · exact ⟨a, b, by omega, hb, hd⟩
        · exact ⟨c, b, by omega, by omega, hd⟩
      · rintro ⟨a, b, ha, hb, hd⟩
        by_cases e : a = c
        · rw [e] at hd; exact .inr ⟨b, by omega, hd⟩
        · exact .inl ⟨a, b, by omega, hb, hd⟩
  · refine Cm.step (fun k => by simp only [spec_l3Times.l3, if_neg hc]; try rfl) ?_
    have e : c = s := by omega
    subst e
    exact h fl hfl

theorem sT_eta (p : S75) : (⟨p.f0, p.f1⟩ : S75) = p := rfl

open Classical in
theorem impl_round (s : Int) (l : List S75) (hG : Gr.Good s l) (m : List Int) (hN : Net s l m) (n : Int) (T : Int → Int → Int) (hT : Tim s (Bl s l) n T) (hn : n ≤ 1000) (Q : List (List Int) → Prop)
    (hQ : ∀ fl : Bool, (fl = true ↔ Due s l T) → Cm (fun k => impl_net_copTimes.l1 k s (mk s (nxt n T (Bl s l))) (n + 2) fl m) Q) : Cm (fun k => impl_net_copTimes.l1 k s (mk s T) (n + 1) true m) Q := by
  have h8 := hG.2.1
  have h0 := hG.1
  have n0 := hT.n0
  have hml : ((mk s T).length : Int) = s := by rw [mk_len]; omega
  have hXd : ∀ c r, nxt n T (Bl s l) c r = if due T (Bl s l) c r then n + 1 else T c r := fun c r => rfl
  obtain ⟨X, hX⟩ : ∃ X, X = nxt n T (Bl s l) := ⟨_, rfl⟩
  rw [← hX] at hQ hXd
  clear hX
  refine Cm.step (fun k => by simp only [impl_net_copTimes.l1, if_true]; try rfl) ?_
  -- the situations that are due, in order
  refine Cm.up (fun k c (e : List S75) => impl_net_copTimes.l2 k s (mk s T) (n + 1) false e s c m) s (fun c e => 0 ≤ c ∧ (e.length : Int) ≤ c * 8 ∧ ∀ p : S75, p ∈ e ↔ ((0 ≤ p.f0 ∧ p.f0 < s) ∧ (0 ≤ p.f1 ∧ p.f1 < s)) ∧ p.f0 < c ∧ due T (Bl s l) p.f0 p.f1) _ ?_ 0 [] h0 ⟨by omega, by simp, fun p => ⟨fun h => (nomatch h), fun h => by omega⟩⟩
  rintro c e hcs ⟨c0, hel, he⟩ ih
  by_cases hc : c < s
  · refine Cm.step (fun k => by simp only [impl_net_copTimes.l2, if_pos hc]; try rfl) ?_
    have hrow := rowL T c ⟨c0, hc⟩
    have hrl : (((V s).map (T c)).length : Int) = s := by rw [mapV_len]; omega
    refine Cm.up (fun k r (e : List S75) => impl_net_copTimes.l3 k s (mk s T) (n + 1) false e c s c s r m) s (fun r e => 0 ≤ r ∧ (e.length : Int) ≤ c * 8 + r ∧ ∀ p : S75, p ∈ e ↔ ((0 ≤ p.f0 ∧ p.f0 < s) ∧ (0 ≤ p.f1 ∧ p.f1 < s)) ∧ (p.f0 < c ∨ (p.f0 = c ∧ p.f1 < r)) ∧ due T (Bl s l) p.f0 p.f1) _ ?_ 0 e h0 ⟨by omega, by omega, fun p => (he p).trans ⟨fun h => ⟨h.1, .inl h.2.1, h.2.2⟩, fun h => ⟨h.1, h.2.1.elim id (fun h => by omega), h.2.2⟩⟩⟩
    rintro r e hrs ⟨r0, hel, he⟩ ihr
    by_cases hr : r < s
    · have hrd := rd_mapV s (T c) r r0 hr
      have hskip : ¬ due T (Bl s l) c r → ∀ p : S75, p ∈ e ↔ ((0 ≤ p.f0 ∧ p.f0 < s) ∧ (0 ≤ p.f1 ∧ p.f1 < s)) ∧ (p.f0 < c ∨ (p.f0 = c ∧ p.f1 < r + 1)) ∧ due T (Bl s l) p.f0 p.f1 := fun hd p => (he p).trans ⟨fun h => ⟨h.1, h.2.1.elim .inl (fun h => .inr ⟨h.1, by omega⟩), h.2.2⟩, fun ⟨h1, h2, h3⟩ => ⟨h1, h2.elim .inl (fun h2 => by
        by_cases e2 : p.f1 = r
        · rw [h2.1, e2] at h3; exact (hd h3).elim
        · exact .inr ⟨h2.1, by omega⟩), h3⟩⟩
      have hpush : due T (Bl s l) c r → ∀ p : S75, p ∈ e ++ [(⟨c, r⟩ : S75)] ↔ ((0 ≤ p.f0 ∧ p.f0 < s) ∧ (0 ≤ p.f1 ∧ p.f1 < s)) ∧ (p.f0 < c ∨ (p.f0 = c ∧ p.f1 < r + 1)) ∧ due T (Bl s l) p.f0 p.f1 := fun hd p => by
        rw [List.mem_append, List.mem_singleton, he p]
        constructor
        · rintro (h | rfl)
          · exact ⟨h.1, h.2.1.elim .inl (fun h => .inr ⟨h.1, by omega⟩), h.2.2⟩
          · exact ⟨⟨⟨c0, hc⟩, ⟨r0, hr⟩⟩, .inr ⟨rfl, by dsimp only; omega⟩, hd⟩
        · rintro ⟨h1, h2, h3⟩
          rcases h2 with h2 | h2
          · exact .inl ⟨h1, .inl h2, h3⟩
          · by_cases e2 : p.f1 = r
            · refine .inr ?_
              rw [← sT_eta p, h2.1, e2]
            · exact .inl ⟨h1, .inr ⟨h2.1, by omega⟩, h3⟩
      refine Cm.step (fun k => by simp (disch := omega) only [impl_net_copTimes.l3, if_pos hr, if_pos c0, hml, if_pos hc, if_pos r0, hrow, hrl, hrd, w64 (r + 1)]; try rfl) ?_
      refine Cm.ite (fun hneg => ?_) (fun hneg => ihr _ hr ⟨by omega, by omega, hskip (fun hd => hneg hd.1)⟩)
      refine Cm.bindE (can_impl hG hN T c r ⟨c0, hc⟩ ⟨r0, hr⟩) ?_
      refine Cm.ite (fun hcan => Cm.pos (by omega) (ihr _ hr ⟨by omega, by rw [List.length_append, List.length_singleton]; omega, hpush ⟨hneg, hcan⟩⟩)) (fun hcan => ihr _ hr ⟨by omega, by omega, hskip (fun hd => hcan hd.2)⟩)
    · refine Cm.step (fun k => by simp (disch := omega) only [impl_net_copTimes.l3, if_neg hr, w64 (c + 1)]; try rfl) (ih _ hc ⟨by omega, by omega, fun p => (he p).trans ⟨fun h => ⟨h.1, by omega, h.2.2⟩, fun h => ⟨h.1, by omega, h.2.2⟩⟩⟩)
  · refine Cm.step (fun k => by simp only [impl_net_copTimes.l2, if_neg hc]; try rfl) ?_
    have he' : ∀ p : S75, p ∈ e ↔ ((0 ≤ p.f0 ∧ p.f0 < s) ∧ (0 ≤ p.f1 ∧ p.f1 < s)) ∧ due T (Bl s l) p.f0 p.f1 := fun p => (he p).trans ⟨fun h => ⟨h.1, h.2.2⟩, fun h => ⟨h.1, by omega, h.2⟩⟩
    refine Cm.up (fun k i (z : List (List Int) × Bool) => impl_net_copTimes.l4 k s z.1 (n + 1) z.2 e e.length i m) e.length (fun i z => 0 ≤ i ∧ z.1 = mk s (fun a b => if (⟨a, b⟩ : S75) ∈ e.take i.toNat then n + 1 else T a b) ∧ (z.2 = true ↔ 0 < i)) _ ?_ 0 (mk s T, false) (by omega) ⟨by omega, mk_ext (fun a b _ _ => by rw [if_neg (by simp)]), ⟨fun h => Bool.noConfusion h, fun h => by omega⟩⟩
    rintro i ⟨t, f⟩ hi ⟨i0, ht, hf⟩ ihi
    dsimp only at ht hf ⊢
    subst ht
    by_cases h : i < (e.length : Int)
    · have hp := (he' _).1 (rdT_mem e i i0 h)
      obtain ⟨p, hpe⟩ : ∃ p, p = rd_T75 e i := ⟨_, rfl⟩
      have htk := takeT e i i0 h
      rw [← hpe] at hp htk
      obtain ⟨Y, hY⟩ : ∃ Y : Int → Int → Int, Y = fun a b => if (⟨a, b⟩ : S75) ∈ e.take i.toNat then n + 1 else T a b := ⟨_, rfl⟩
      rw [← hY]
      have hyl : ((mk s Y).length : Int) = s := by rw [mk_len]; omega
      have hrow := rowL Y p.f0 hp.1.1
      have hrl : (((V s).map (Y p.f0)).length : Int) = s := by rw [mapV_len]; omega
      refine Cm.step (fun k => by simp (disch := omega) only [impl_net_copTimes.l4, if_pos h, if_pos i0, ← hpe, if_pos hp.1.1.1, hyl, if_pos hp.1.1.2, if_pos hp.1.2.1, hrow, hrl, if_pos hp.1.2.2, w64 (i + 1)]; try rfl) ?_
      rw [mk_set Y p.f0 p.f1 (n + 1) hp.1.1 hp.1.2]
      refine ihi (_, true) h ⟨by omega, mk_ext (fun a b _ _ => ?_), ⟨fun _ => by omega, fun _ => rfl⟩⟩
      rw [htk, hY]
      dsimp only
      by_cases e1 : a = p.f0 ∧ b = p.f1
      · rw [if_pos e1, if_pos (by rw [e1.1, e1.2]; simp)]
      · rw [if_neg e1]
        have : (⟨a, b⟩ : S75) ∈ e.take i.toNat ++ [p] ↔ (⟨a, b⟩ : S75) ∈ e.take i.toNat := by
          rw [List.mem_append, List.mem_singleton]
          exact ⟨fun h => h.elim id (fun h => (e1 (by rw [← h]; exact ⟨rfl, rfl⟩)).elim), .inl⟩
        by_cases e2 : (⟨a, b⟩ : S75) ∈ e.take i.toNat
        · rw [if_pos e2, if_pos (this.2 e2)]
        · rw [if_neg e2, if_neg (fun hh => e2 (this.1 hh))]
    · rw [takeT_all e i (by omega)]
      have e1 : mk s (fun a b => if (⟨a, b⟩ : S75) ∈ e then n + 1 else T a b) = mk s X := mk_ext (fun a b ha hb => by
        rw [hXd a b]
        by_cases hd : due T (Bl s l) a b
        · rw [if_pos hd, if_pos ((he' ⟨a, b⟩).2 ⟨⟨ha, hb⟩, hd⟩)]
        · rw [if_neg hd, if_neg (fun hh => hd ((he' ⟨a, b⟩).1 hh).2)])
      rw [e1]
      refine Cm.step (fun k => by simp (disch := omega) only [impl_net_copTimes.l4, if_neg h, show n + 1 + 1 = n + 2 by omega, w64 (n + 2)]; try rfl) (hQ f (hf.trans ⟨fun hi0 => ?_, fun ⟨a, b, ha, hb, hd⟩ => ?_⟩))
      · have hp := (he' _).1 (rdT_mem e 0 (by omega) (by omega))
        exact ⟨_, _, hp.1.1, hp.1.2, hp.2⟩
      · have := List.length_pos_of_mem ((he' ⟨a, b⟩).2 ⟨⟨ha, hb⟩, hd⟩)
        omega

end Go.Proofs.Ytmbgpbanbffchaa.Gr
