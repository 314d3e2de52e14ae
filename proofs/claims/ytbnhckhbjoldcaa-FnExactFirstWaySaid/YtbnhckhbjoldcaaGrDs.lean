/- The rows of distances, by the reference; no conditions beyond those that each theorem names. -/
import Derived.Test.YtbnhckhbjoldcaaGrDi
import Derived.Test.YtbnhckhbjoldcaaGrM
import Derived.Test.YtbnhckhbjoldcaaPxSpecL2Dist
namespace Go.Proofs.Ytbnhckhbjoldcaa.Gr
open Go.RowKit Go.Proofs.Ytbnhckhbjoldcaa.P Go.Proofs.YtbnhckhbjoldcaaW.PrintWords Go.Proofs.YtbnhckhbjoldcaaW.PrintLast Go.Proofs.YtbnhckhbjoldcaaW.PrintMore

/-- A row that tells the distances from x up to d; -1 where more is needed. -/
def Lev (s : Int) (l : List S82) (x d : Int) (row : List Int) : Prop := (row.length : Int) = s ∧ ∀ v : Int, 0 ≤ v → v < s → (rd row v = -1 ∨ (0 ≤ rd row v ∧ rd row v ≤ d)) ∧ ∀ n : Nat, (n : Int) ≤ d → ((0 ≤ rd row v ∧ rd row v ≤ n) ↔ Rch l x n v)
/-- The row on the way from d to d + 1. -/
def Mid (s : Int) (l : List S82) (d y z : Int) (row0 row : List Int) : Prop := (row.length : Int) = s ∧ ∀ v : Int, 0 ≤ v → v < s → (0 ≤ rd row0 v → rd row v = rd row0 v) ∧ (rd row0 v = -1 → (rd row v = d + 1 ∧ ∃ u, (0 ≤ u ∧ u < s) ∧ rd row0 u = d ∧ near l u v = true) ∨ (rd row v = -1 ∧ ∀ u : Int, 0 ≤ u → (u < y ∨ (u = y ∧ v < z)) → rd row0 u = d → near l u v = false))

theorem mid_next {s : Int} {l : List S82} {d y z : Int} {row0 row : List Int} (h : Mid s l d y z row0 row) (hz : rd row0 z = -1 → rd row z = -1 → rd row0 y = d → near l y z = false) : Mid s l d y (z + 1) row0 row := by
  refine ⟨h.1, fun v v0 v1 => ⟨(h.2 v v0 v1).1, fun e => ?_⟩⟩
  rcases (h.2 v v0 v1).2 e with h1 | ⟨h1, h2⟩
  · exact .inl h1
  · refine .inr ⟨h1, fun u u0 hu hd => ?_⟩
    by_cases hvz : u = y ∧ v = z
    · obtain ⟨rfl, rfl⟩ := hvz
      exact hz e h1 hd
    · exact h2 u u0 (by omega) hd
theorem lev_next {s : Int} {l : List S82} (hG : Gr.Good s l) {x d : Int} (hx : 0 ≤ x ∧ x < s) (d0 : 0 ≤ d) {row0 row : List Int} (h : Lev s l x d row0) (hm : Mid s l d s 0 row0 row) : Lev s l x (d + 1) row := by
  refine ⟨hm.1, fun v v0 v1 => ?_⟩
  obtain ⟨k0, kr⟩ := h.2 v v0 v1
  obtain ⟨m0, m1⟩ := hm.2 v v0 v1
  have hold : ∀ u : Int, 0 ≤ u → u < s → ∀ n : Nat, (n : Int) ≤ d → ((0 ≤ rd row0 u ∧ rd row0 u ≤ n) ↔ Rch l x n u) := fun u u0 u1 => (h.2 u u0 u1).2
  -- a near one at d
  have hnear : ∀ u : Int, 0 ≤ u → u < s → rd row0 u = d → near l u v = true → Rch l x (d.toNat + 1) v := fun u u0 u1 hd hn => .inr ⟨u, (hold u u0 u1 d.toNat (by omega)).1 ⟨by omega, by omega⟩, hn⟩
  have hback : rd row0 v = -1 → Rch l x (d.toNat + 1) v → ∃ u, (0 ≤ u ∧ u < s) ∧ rd row0 u = d ∧ near l u v = true := fun e hr => by
    rcases hr with hr | ⟨u, hu, hn⟩
    · have := (kr d.toNat (by omega)).2 hr
      omega
    · have hun := rch_in hG hx _ u hu
      have h1 := (hold u hun.1 hun.2 d.toNat (by omega)).2 hu
      refine ⟨u, hun, ?_, hn⟩
      by_cases hlt : rd row0 u = d
      · exact hlt
      · exfalso
        have h2 : Rch l x ((rd row0 u).toNat + 1) v := .inr ⟨u, (hold u hun.1 hun.2 (rd row0 u).toNat (by omega)).1 ⟨h1.1, by omega⟩, hn⟩
        have := (kr ((rd row0 u).toNat + 1) (by omega)).2 h2
        omega
  refine ⟨?_, fun n hn => ?_⟩
  · rcases k0 with e | e
    · rcases m1 e with ⟨h1, _⟩ | ⟨h1, _⟩
      · exact .inr (by omega)
      · exact .inl h1
    · have := m0 e.1
      exact .inr (by omega)
  · by_cases hnd : (n : Int) ≤ d
    · rw [← kr n hnd]
      rcases k0 with e | e
      · rcases m1 e with ⟨h1, _⟩ | ⟨h1, _⟩ <;> (rw [h1, e]; try omega)
      · rw [m0 e.1]
    · have hn' : n = d.toNat + 1 := by omega
      subst hn'
      rcases k0 with e | e
      · rcases m1 e with ⟨h1, u, hu, hd, hn⟩ | ⟨h1, h2⟩
        · rw [h1]
          exact ⟨fun _ => hnear u hu.1 hu.2 hd hn, fun _ => by omega⟩
        · rw [h1]
          refine ⟨fun h3 => by omega, fun h3 => ?_⟩
          obtain ⟨u, hu, hd, hn⟩ := hback e h3
          rw [h2 u hu.1 (.inl hu.2) hd] at hn
          exact Bool.noConfusion hn
      · rw [m0 e.1]
        exact ⟨fun _ => .inl ((kr d.toNat (by omega)).1 ⟨e.1, by omega⟩), fun _ => by omega⟩

theorem dist_cm (s : Int) (l : List S82) (hl : l.length ≤ 1048576) (hG : Gr.Good s l) : Cm (fun k => spec_l2Dist.f k s l) (fun t => (t.length : Int) = s ∧ ∀ x : Int, 0 ≤ x → x < s → Lev s l x s (t.getD x.toNat [])) := by
  unfold spec_l2Dist.f
  have h8 := hG.2.1
  have h0 := hG.1
  refine Cm.up (fun k i a => spec_l2Dist.l0 k a i s l) s (fun i a => 0 ≤ i ∧ (a.length : Int) = i ∧ ∀ x : Int, 0 ≤ x → x < i → Lev s l x s (a.getD x.toNat [])) _ ?_ 0 [] h0 ⟨by omega, by simp, fun x a b => by omega⟩
  rintro i a hi ⟨i0, hal, ha⟩ ih
  by_cases h : i < s
  · refine Cm.step (fun k => by simp only [spec_l2Dist.l0, if_pos h]; try rfl) ?_
    refine Cm.up (fun k j b => spec_l2Dist.l1 k a i b j s l) s (fun j b => 0 ≤ j ∧ b = List.replicate j.toNat (-1)) _ ?_ 0 [] h0 ⟨by omega, rfl⟩
    rintro j b hj ⟨j0, rfl⟩ ihj
    by_cases hjs : j < s
    · refine Cm.step (fun k => by simp (disch := omega) only [spec_l2Dist.l1, if_pos hjs, w64 (j + 1)]; try rfl) (Cm.pos (by rw [List.length_replicate]; omega) (ihj _ hjs ⟨by omega, ?_⟩))
      rw [show (j + 1).toNat = j.toNat + 1 by omega, List.replicate_succ']
    · have hbl : ((List.replicate j.toNat (-1 : Int)).length : Int) = s := by rw [List.length_replicate]; omega
      have hrep : ∀ v : Int, 0 ≤ v → v < s → rd (List.replicate j.toNat (-1)) v = -1 := fun v v0 v1 => by
        unfold rd
        rw [List.getD_eq_getElem?_getD, List.getElem?_replicate, if_pos (by omega)]
        rfl
      refine Cm.step (fun k => by simp only [spec_l2Dist.l1, if_neg hjs]; try rfl) (Cm.pos i0 (Cm.pos (by omega) ?_))
      obtain ⟨b, hb⟩ : ∃ b, b = List.replicate j.toNat (-1 : Int) := ⟨_, rfl⟩
      rw [← hb] at hbl hrep ⊢
      clear hb ihj
      refine Cm.up (fun k d row => spec_l2Dist.l2 k a i row d s l) s (fun d row => 0 ≤ d ∧ Lev s l i d row) _ ?_ 0 _ h0 ⟨by omega, by rw [List.length_set]; exact hbl, fun v v0 v1 => ?_⟩
      · rintro d row0 hd ⟨d0, hlev⟩ ihd
        by_cases hds : d < s
        · refine Cm.step (fun k => by simp only [spec_l2Dist.l2, if_pos hds]; try rfl) ?_
          refine Cm.up (fun k y row => spec_l2Dist.l3 k a i row d y s l) s (fun y row => 0 ≤ y ∧ Mid s l d y 0 row0 row) _ ?_ 0 row0 h0 ⟨by omega, hlev.1, fun v v0 v1 => ⟨fun _ => rfl, fun e => .inr ⟨e, fun u u0 hu => by omega⟩⟩⟩
          rintro y row hy ⟨y0, hmid⟩ ihy
          by_cases hys : y < s
          · refine Cm.step (fun k => by simp only [spec_l2Dist.l3, if_pos hys]; try rfl) ?_
            refine Cm.up (fun k z row => spec_l2Dist.l4 k a i row d y z s l) s (fun z row => 0 ≤ z ∧ Mid s l d y z row0 row) _ ?_ 0 row h0 ⟨by omega, hmid⟩
            rintro z row hz ⟨z0, hmid⟩ ihz
            have hrl := hmid.1
            by_cases hzs : z < s
            · have hy2 := hmid.2 y y0 hys
              have hk := (hlev.2 y y0 hys).1
              have hkz := (hlev.2 z z0 hzs).1
              have hz2 := hmid.2 z z0 hzs
              have hyd : rd row y = d ↔ rd row0 y = d := by
                rcases hk with e | e
                · rcases hy2.2 e with ⟨h1, _⟩ | ⟨h1, _⟩ <;> (rw [h1, e]; try omega)
                · rw [hy2.1 e.1]
              refine Cm.step (fun k => by simp (disch := omega) only [spec_l2Dist.l4, if_pos hzs, if_pos y0, if_pos (show y < (row.length : Int) by omega), w64 (z + 1), w64 (d + 1)]; try rfl) ?_
              refine Cm.ite (fun e => Cm.pos z0 (Cm.pos (by omega) (Cm.ite (fun e2 => Cm.bindE (near_ev s l y z hl) (Cm.ite (fun e3 => ihz _ hzs ⟨by omega, ?_⟩) (fun e3 => ihz _ hzs ⟨by omega, mid_next hmid (fun _ _ _ => Bool.eq_false_iff.2 e3)⟩))) (fun e2 => ihz _ hzs ⟨by omega, mid_next hmid (fun _ h2 _ => by omega)⟩)))) (fun e => ihz _ hzs ⟨by omega, mid_next hmid (fun _ _ h3 => (e (hyd.2 h3)).elim)⟩)
              have hz0 : rd row0 z = -1 := by
                rcases hkz with h1 | h1
                · exact h1
                · have := hz2.1 h1.1
                  omega
              refine ⟨by rw [List.length_set]; exact hrl, fun v v0 v1 => ?_⟩
              rw [rd_set row z v _ z0 (by omega) v0]
              by_cases hvz : z = v
              · subst hvz
                rw [if_pos rfl]
                exact ⟨fun h1 => by omega, fun _ => .inl ⟨rfl, y, ⟨y0, hys⟩, hyd.1 e, e3⟩⟩
              · rw [if_neg hvz]
                refine ⟨(hmid.2 v v0 v1).1, fun h1 => ?_⟩
                rcases (hmid.2 v v0 v1).2 h1 with h2 | ⟨h2, h3⟩
                · exact .inl h2
                · exact .inr ⟨h2, fun u u0 hu hd => h3 u u0 (by omega) hd⟩
            · refine Cm.step (fun k => by simp (disch := omega) only [spec_l2Dist.l4, if_neg hzs, w64 (y + 1)]; try rfl) (ihy _ hys ⟨by omega, hmid.1, fun v v0 v1 => ⟨(hmid.2 v v0 v1).1, fun e => ?_⟩⟩)
              rcases (hmid.2 v v0 v1).2 e with h1 | ⟨h1, h2⟩
              · exact .inl h1
              · exact .inr ⟨h1, fun u u0 hu hd => h2 u u0 (by omega) hd⟩
          · have hsy : y = s := by omega
            rw [hsy] at hmid
            refine Cm.step (fun k => by simp (disch := omega) only [spec_l2Dist.l3, if_neg hys, w64 (d + 1)]; try rfl) (ihd _ hds ⟨by omega, lev_next hG ⟨i0, h⟩ d0 hlev hmid⟩)
        · refine Cm.step (fun k => by simp (disch := omega) only [spec_l2Dist.l2, if_neg hds, w64 (i + 1)]; try rfl) (Cm.pos (by omega) (ih _ h ⟨by omega, by rw [List.length_append, List.length_singleton]; omega, fun x x0 x1 => ?_⟩))
          rw [List.getD_eq_getElem?_getD]
          by_cases hxi : x < i
          · rw [List.getElem?_append_left (by omega), ← List.getD_eq_getElem?_getD]
            exact ha x x0 hxi
          · rw [List.getElem?_append_right (by omega), show x.toNat - a.length = 0 by omega, show x = i by omega]
            rw [show s = d by omega] at hlev ⊢
            exact hlev
      · rw [rd_set b i v _ i0 (by omega) v0]
        by_cases hv : i = v
        · rw [if_pos hv]
          refine ⟨.inr (by omega), fun n hn => ?_⟩
          have hn0 : n = 0 := by omega
          subst hn0
          exact ⟨fun _ => hv.symm, fun _ => by omega⟩
        · rw [if_neg hv, hrep v v0 v1]
          refine ⟨.inl rfl, fun n hn => ?_⟩
          have hn0 : n = 0 := by omega
          subst hn0
          exact ⟨fun h1 => by omega, fun h1 => (hv (show v = i from h1).symm).elim⟩
  · refine Cm.step (fun k => by simp only [spec_l2Dist.l0, if_neg h]; try rfl) (Cm.now ⟨by omega, fun x x0 x1 => ha x x0 (by omega)⟩)

end Go.Proofs.Ytbnhckhbjoldcaa.Gr
