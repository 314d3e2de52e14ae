/- The rows of distances, by the program, and that both come to one table; no conditions beyond those that each theorem names. -/
import Derived.Test.YtbnhckhbjoldcaaGrDs
import Derived.Test.YtbnhckhbjoldcaaPxImplNetDistances
import Derived.Test.YtbnhckhbjoldcaaPxNetA
import Derived.Test.YtbnhckhbjoldcaaPxSlicesRepeatIntInt
namespace Go.Proofs.Ytbnhckhbjoldcaa.Gr
open Go.RowKit Go.Proofs.Ytbnhckhbjoldcaa.P Go.Proofs.YtbnhckhbjoldcaaW.PrintWords Go.Proofs.YtbnhckhbjoldcaaW.PrintLast Go.Proofs.YtbnhckhbjoldcaaW.PrintMore

theorem lev_ext {s : Int} {l : List S82} {x : Int} {a b : List Int} (ha : Lev s l x s a) (hb : Lev s l x s b) : a = b := by
  have h1 := ha.1
  have h2 := hb.1
  refine List.ext_getElem (by omega) (fun j j1 j2 => ?_)
  have ea : rd a (j : Int) = a[j] := by
    unfold rd
    rw [Int.toNat_natCast, List.getD_eq_getElem?_getD, List.getElem?_eq_getElem j1]
    rfl
  have eb : rd b (j : Int) = b[j] := by
    unfold rd
    rw [Int.toNat_natCast, List.getD_eq_getElem?_getD, List.getElem?_eq_getElem j2]
    rfl
  rw [← ea, ← eb]
  obtain ⟨p1, p2⟩ := ha.2 j (by omega) (by omega)
  obtain ⟨q1, q2⟩ := hb.2 j (by omega) (by omega)
  have hs : 0 ≤ s := by omega
  rcases p1 with e | e
  · rcases q1 with f | f
    · rw [e, f]
    · have := (p2 (rd b j).toNat (by omega)).2 ((q2 (rd b j).toNat (by omega)).1 (by omega))
      omega
  · have k1 := (q2 (rd a j).toNat (by omega)).2 ((p2 (rd a j).toNat (by omega)).1 (by omega))
    have k2 := (p2 (rd b j).toNat (by omega)).2 ((q2 (rd b j).toNat (by omega)).1 (by omega))
    omega

/-- A row that tells the distances from x that are more than r. -/
def Far (s : Int) (l : List S82) (x r : Int) (row : List Int) : Prop := (row.length : Int) = s ∧ ∀ v : Int, 0 ≤ v → v < s → (rd row v = -1 ∨ (r < rd row v ∧ rd row v ≤ s)) ∧ ∀ n : Nat, r < (n : Int) → (n : Int) ≤ s → ((0 ≤ rd row v ∧ rd row v ≤ n) ↔ Rch l x n v)

theorem far_lev {s : Int} {l : List S82} {x r : Int} {row : List Int} (h : Far s l x r row) (hr : r = -1) : Lev s l x s row := by
  refine ⟨h.1, fun v v0 v1 => ?_⟩
  obtain ⟨h1, h2⟩ := h.2 v v0 v1
  refine ⟨?_, fun n hn => h2 n (by omega) hn⟩
  rcases h1 with e | e
  · exact .inl e
  · exact .inr ⟨by omega, e.2⟩

theorem set_ln (s : Int) (h8 : s ≤ 8) (T : List (List Int)) (x r : Int) (hT : (T.length : Int) = s) (hx : 0 ≤ x ∧ x < s) (L : List Int) (hL : ∀ v ∈ L, 0 ≤ v ∧ v < s) (hLl : L.length ≤ 8) (row0 : List Int) (hrow : (row0.length : Int) = s) (m : List Int) (x12 : Int) (Q : List (List Int) → Prop)
    (hQ : ∀ row : List Int, (row.length : Int) = s → (∀ v : Int, 0 ≤ v → v < s → rd row v = if v ∈ L then r else rd row0 v) → Cm (fun k => impl_net_distances.l1 k (T.set x.toNat row) x (wrap64 (r - 1)) x12 x m) Q) :
    Cm (fun k => impl_net_distances.l2 k (T.set x.toNat row0) x r x12 x L (L.length : Int) 0 m) Q := by
  refine Cm.up (fun k i (A : List (List Int)) => impl_net_distances.l2 k A x r x12 x L (L.length : Int) i m) (L.length : Int) (fun i A => 0 ≤ i ∧ ∃ row : List Int, A = T.set x.toNat row ∧ (row.length : Int) = s ∧ ∀ v : Int, 0 ≤ v → v < s → rd row v = if v ∈ L.take i.toNat then r else rd row0 v) _ ?_ 0 _ (by omega) ⟨by omega, row0, rfl, hrow, fun v _ _ => by rw [if_neg (by simp)]⟩
  rintro i A hi ⟨i0, row, rfl, hrl, hrv⟩ ih
  by_cases hc : i < (L.length : Int)
  · have hat : rd_L2 (T.set x.toNat row) x = row := by
      unfold rd_L2
      rw [List.getD_eq_getElem?_getD, List.getElem?_set_self (by omega)]
      rfl
    have hu := hL (rd L i) (rd_mem L i i0 hc)
    have hlen : ((T.set x.toNat row).length : Int) = s := by rw [List.length_set]; exact hT
    have hss : (T.set x.toNat row).set x.toNat (row.set (rd L i).toNat r) = T.set x.toNat (row.set (rd L i).toNat r) := List.set_set _
    refine Cm.step (fun k => by simp (disch := omega) only [impl_net_distances.l2, if_pos hc, if_pos i0, hlen, if_pos hx.1, if_pos hx.2, hat, if_pos hu.1, hrl, if_pos hu.2, hss, w64 (i + 1)]; try rfl) (ih _ hc ⟨by omega, row.set (rd L i).toNat r, rfl, by rw [List.length_set]; exact hrl, fun v v0 v1 => ?_⟩)
    rw [rd_set row (rd L i) v _ hu.1 (by omega) v0, take_rd L i i0 hc, hrv v v0 v1]
    by_cases e : rd L i = v
    · rw [if_pos e, if_pos (List.mem_append.2 (.inr (List.mem_singleton.2 e.symm)))]
    · rw [if_neg e]
      by_cases h2 : v ∈ L.take i.toNat
      · rw [if_pos h2, if_pos (List.mem_append.2 (.inl h2))]
      · rw [if_neg h2, if_neg (fun h3 => (List.mem_append.1 h3).elim h2 (fun h4 => e (List.mem_singleton.1 h4).symm))]
  · refine Cm.step (fun k => by simp only [impl_net_distances.l2, if_neg hc]; try rfl) (hQ row hrl (fun v v0 v1 => ?_))
    rw [hrv v v0 v1, List.take_of_length_le (by omega)]

open Classical in
theorem row_ln (s : Int) (l : List S82) (hG : Gr.Good s l) (m : List Int) (hN : Net s l m) (T : List (List Int)) (x : Int) (hT : (T.length : Int) = s) (hx : 0 ≤ x ∧ x < s) (row0 : List Int) (h0 : Far s l x s row0) (x12 : Int) (Q : List (List Int) → Prop)
    (hQ : ∀ row : List Int, Lev s l x s row → Cm (fun k => impl_net_distances.l0 k (T.set x.toNat row) x12 (wrap64 (x + 1)) m) Q) :
    Cm (fun k => impl_net_distances.l1 k (T.set x.toNat row0) x s x12 x m) Q := by
  have h8 := hG.2.1
  refine Cm.meas (fun k (z : Int × List (List Int)) => impl_net_distances.l1 k z.2 x z.1 x12 x m) (fun z => (z.1 + 1).toNat) (fun z => -1 ≤ z.1 ∧ z.1 ≤ s ∧ ∃ row, z.2 = T.set x.toNat row ∧ Far s l x z.1 row) (fun _ => Q) ?_ (s, T.set x.toNat row0) ⟨by dsimp only; omega, Int.le_refl _, row0, rfl, h0⟩
  rintro ⟨r, A⟩ ⟨r0, r1, row, hA, hF⟩ ih
  dsimp only at r0 r1 hA hF
  subst hA
  by_cases hc : r ≥ 0
  · refine Cm.step (fun k => by simp only [impl_net_distances.l1, if_pos hc]; try rfl) (Cm.bind (ball_impl s l hG m hN x hx r hc (by omega)) ?_)
    rintro b ⟨hb, hbv⟩
    have hset := setP_ev b hb s h8 (fun v => decide (Rch l x r.toNat v)) (fun v v0 v1 => by
      rw [Bool.eq_iff_iff, Bool.and_eq_true, decide_eq_true_iff, decide_eq_true_iff, hbv v v0 v1]
      exact ⟨fun h => ⟨(rch_in hG hx _ v h).2, h⟩, fun h => h.2⟩)
    refine Cm.bindE hset ?_
    have hlen : ((V s).filter (fun v => decide (Rch l x r.toNat v))).length ≤ s.toNat := VF_len
    refine set_ln s h8 T x r hT hx _ (fun v hv => (mem_VF.1 hv).1) (by omega) row hF.1 m x12 Q (fun row2 h2 h3 => ?_)
    rw [w64 (r - 1) (by omega) (by omega)]
    refine ih (r - 1, T.set x.toNat row2) ⟨by dsimp only; omega, by dsimp only; omega, row2, rfl, h2, fun v v0 v1 => ?_⟩ (by dsimp only; omega)
    have hm : (v ∈ (V s).filter (fun v => decide (Rch l x r.toNat v))) ↔ Rch l x r.toNat v := by
      rw [mem_VF, decide_eq_true_iff]
      exact ⟨fun h => h.2, fun h => ⟨⟨v0, v1⟩, h⟩⟩
    have hv := h3 v v0 v1
    obtain ⟨f1, f2⟩ := hF.2 v v0 v1
    dsimp only
    by_cases hr : Rch l x r.toNat v
    · rw [if_pos (hm.2 hr)] at hv
      rw [hv]
      exact ⟨.inr ⟨by omega, r1⟩, fun n hn hs => ⟨fun _ => rch_more (by omega) hr, fun _ => ⟨hc, by omega⟩⟩⟩
    · rw [if_neg (fun h => hr (hm.1 h))] at hv
      rw [hv]
      refine ⟨?_, fun n hn hs => ?_⟩
      · rcases f1 with e | e
        · exact .inl e
        · exact .inr ⟨by omega, e.2⟩
      · by_cases hnr : (n : Int) = r
        · have hn2 : n = r.toNat := by omega
          rw [hn2]
          refine ⟨fun h => ?_, fun h => (hr h).elim⟩
          rcases f1 with e | e <;> omega
        · exact f2 n (by omega) hs
  · refine Cm.step (fun k => by simp only [impl_net_distances.l1, if_neg hc]; try rfl) (hQ row (far_lev hF (by omega)))

theorem dist_impl (s : Int) (l : List S82) (hG : Gr.Good s l) (m : List Int) (hN : Net s l m) : Cm (fun k => impl_net_distances.f k m) (fun t => (t.length : Int) = s ∧ ∀ x : Int, 0 ≤ x → x < s → Lev s l x s (t.getD x.toNat [])) := by
  have h8 := hG.2.1
  have h0 := hG.1
  have hml : (m.length : Int) = s := hN.1.1
  unfold impl_net_distances.f impl_net_size.f
  rw [hml]
  simp only [Option.bind_some]
  refine Cm.pos h0 (Cm.pos (by omega) ?_)
  have hrl : (((List.replicate s.toNat ([] : List Int)).length : Nat) : Int) = s := by rw [List.length_replicate, Int.toNat_of_nonneg h0]
  rw [hrl]
  refine Cm.up (fun k i (T : List (List Int)) => impl_net_distances.l0 k T s i m) s (fun i T => 0 ≤ i ∧ (T.length : Int) = s ∧ ∀ x : Int, 0 ≤ x → x < i → Lev s l x s (T.getD x.toNat [])) _ ?_ 0 _ h0 ⟨by omega, hrl, fun x a b => by omega⟩
  rintro i T hi ⟨i0, hT, hv⟩ ih
  by_cases hc : i < s
  · have hrep : slices_Repeat_int_int.f ([-1] : List Int) s = some (List.replicate s.toNat (-1 : Int)) := by
      unfold slices_Repeat_int_int.f
      rw [if_pos ⟨rfl, h0, h8⟩]
      rfl
    have hsz : impl_net_size.f m = some s := by unfold impl_net_size.f; rw [hml]
    refine Cm.step (fun k => by simp (disch := omega) only [impl_net_distances.l0, if_pos hc, hrep, hsz, Option.bind_some, if_pos i0, hT]; try rfl) ?_
    have hreps : ∀ v : Int, 0 ≤ v → v < s → rd (List.replicate s.toNat (-1)) v = -1 := fun v v0 v1 => by
      unfold rd
      rw [List.getD_eq_getElem?_getD, List.getElem?_replicate, if_pos (by omega)]
      rfl
    refine row_ln s l hG m hN T i hT ⟨i0, hc⟩ _ ⟨by rw [List.length_replicate]; omega, fun v v0 v1 => ⟨.inl (hreps v v0 v1), fun n h1 h2 => by omega⟩⟩ s _ (fun row hrow => ?_)
    rw [w64 (i + 1) (by omega) (by omega)]
    refine ih _ hc ⟨by omega, by rw [List.length_set]; exact hT, fun x x0 x1 => ?_⟩
    rw [List.getD_eq_getElem?_getD]
    by_cases e : x = i
    · rw [e, List.getElem?_set_self (by omega)]
      exact hrow
    · rw [List.getElem?_set_ne (by omega), ← List.getD_eq_getElem?_getD]
      exact hv x x0 (by omega)
  · refine Cm.step (fun k => by simp only [impl_net_distances.l0, if_neg hc]; try rfl) (Cm.now ⟨hT, fun x x0 x1 => hv x x0 (by omega)⟩)

/-- Both come to one table of distances. -/
theorem dist_both (s : Int) (l : List S82) (hl : l.length ≤ 1048576) (hG : Gr.Good s l) (m : List Int) (hN : Net s l m) : ∃ t : List (List Int), ((t.length : Int) = s ∧ ∀ x : Int, 0 ≤ x → x < s → Lev s l x s (t.getD x.toNat [])) ∧ Ev (fun k => spec_l2Dist.f k s l) t ∧ Ev (fun k => impl_net_distances.f k m) t := by
  obtain ⟨t, e1, h1⟩ := dist_cm s l hl hG
  obtain ⟨u, e2, h2⟩ := dist_impl s l hG m hN
  have e : t = u := by
    refine List.ext_getElem (by have := h1.1; have := h2.1; omega) (fun j j1 j2 => ?_)
    have k1 := h1.2 j (by omega) (by have := h1.1; omega)
    have k2 := h2.2 j (by omega) (by have := h1.1; omega)
    rw [Int.toNat_natCast, List.getD_eq_getElem?_getD, List.getElem?_eq_getElem j1] at k1
    rw [Int.toNat_natCast, List.getD_eq_getElem?_getD, List.getElem?_eq_getElem j2] at k2
    exact lev_ext k1 k2
  subst e
  exact ⟨t, h1, e1, e2⟩

end Go.Proofs.Ytbnhckhbjoldcaa.Gr
