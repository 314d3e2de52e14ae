/- Functions of the program as Lean functions, that each call comes to what they say, and what holds of them; part 15 of 16; no conditions beyond those that each theorem names. -/
import Derived.KernelRfl
import Derived.Test.YtcjddikalgnhpaaK1
import Derived.Test.YtcjddikalgnhpaaK2
import Derived.Test.YtcjddikalgnhpaaK3
import Derived.Test.YtcjddikalgnhpaaK4
import Derived.Test.YtcjddikalgnhpaaK6
import Derived.Test.YtcjddikalgnhpaaK7
import Derived.Test.YtcjddikalgnhpaaK10
import Derived.Test.YtcjddikalgnhpaaK11
import Derived.Test.YtcjddikalgnhpaaK12
import Derived.Test.YtcjddikalgnhpaaK14
namespace Go.Proofs.Ytcjddikalgnhpaa.Gr
open Go.RowKit Go.Proofs.Ytcjddikalgnhpaa.P Go.Proofs.YtcjddikalgnhpaaW.PrintWords Go.Proofs.YtcjddikalgnhpaaW.PrintLast Go.Proofs.YtcjddikalgnhpaaW.PrintMore
theorem lev_ext {s : Int} {l : List S71} {x : Int} {a b : List Int} (ha : Lev s l x s a) (hb : Lev s l x s b) : a = b := by
  have h1 := ha.1
  have h2 := hb.1
  refine List.ext_getElem (by omega) (fun j j1 j2 => ?_)
  have ea : rd a (j : Int) = a[j] := by
    unfold rd
    rw [Int.toNat_natCast, List.getD_eq_getElem?_getD, List.getElem?_eq_getElem j1]
    rfl
  have eb : rd b (j : Int) = b[j] := by
    unfold rd
    rw [Int.toNat_natCast, List.getD_eq_getElem?_getD, List.getElem?_eq_getElem j2]
    rfl
  rw [← ea, ← eb]
  obtain ⟨p1, p2⟩ := ha.2 j (by omega) (by omega)
  obtain ⟨q1, q2⟩ := hb.2 j (by omega) (by omega)
  have hs : 0 ≤ s := by omega
  rcases p1 with e | e
  · rcases q1 with f | f
    · rw [e, f]
    · have := (p2 (rd b j).toNat (by omega)).2 ((q2 (rd b j).toNat (by omega)).1 (by omega))
      omega
  · have k1 := (q2 (rd a j).toNat (by omega)).2 ((p2 (rd a j).toNat (by omega)).1 (by omega))
    have k2 := (p2 (rd b j).toNat (by omega)).2 ((q2 (rd b j).toNat (by omega)).1 (by omega))
    omega
/-- A row that tells the distances from x that are more than r. -/
def Far (s : Int) (l : List S71) (x r : Int) (row : List Int) : Prop := (row.length : Int) = s ∧ ∀ v : Int, 0 ≤ v → v < s → (rd row v = -1 ∨ (r < rd row v ∧ rd row v ≤ s)) ∧ ∀ n : Nat, r < (n : Int) → (n : Int) ≤ s → ((0 ≤ rd row v ∧ rd row v ≤ n) ↔ Rch l x n v)
theorem far_lev {s : Int} {l : List S71} {x r : Int} {row : List Int} (h : Far s l x r row) (hr : r = -1) : Lev s l x s row := by
  refine ⟨h.1, fun v v0 v1 => ?_⟩
  obtain ⟨h1, h2⟩ := h.2 v v0 v1
  refine ⟨?_, fun n hn => h2 n (by omega) hn⟩
  rcases h1 with e | e
  · exact .inl e
  · exact .inr ⟨by omega, e.2⟩
theorem set_ln (s : Int) (h8 : s ≤ 8) (T : List (List Int)) (x r : Int) (hT : (T.length : Int) = s) (hx : 0 ≤ x ∧ x < s) (L : List Int) (hL : ∀ v ∈ L, 0 ≤ v ∧ v < s) (hLl : L.length ≤ 8) (row0 : List Int) (hrow : (row0.length : Int) = s) (m : List Int) (x12 : Int) (Q : List (List Int) → Prop)
    (hQ : ∀ row : List Int, (row.length : Int) = s → (∀ v : Int, 0 ≤ v → v < s → rd row v = if v ∈ L then r else rd row0 v) → Cm (fun k => impl_net_distances.l1 k (T.set x.toNat row) x (wrap64 (r - 1)) x12 x m) Q) :
    Cm (fun k => impl_net_distances.l2 k (T.set x.toNat row0) x r x12 x L (L.length : Int) 0 m) Q := by
  refine Cm.up (fun k i (A : List (List Int)) => impl_net_distances.l2 k A x r x12 x L (L.length : Int) i m) (L.length : Int) (fun i A => 0 ≤ i ∧ ∃ row : List Int, A = T.set x.toNat row ∧ (row.length : Int) = s ∧ ∀ v : Int, 0 ≤ v → v < s → rd row v = if v ∈ L.take i.toNat then r else rd row0 v) _ ?_ 0 _ (by omega) ⟨by omega, row0, rfl, hrow, fun v _ _ => by rw [if_neg (by simp)]⟩
  rintro i A hi ⟨i0, row, rfl, hrl, hrv⟩ ih
  by_cases hc : i < (L.length : Int)
  · have hat : rd_L6 (T.set x.toNat row) x = row := by
      unfold rd_L6
      rw [List.getD_eq_getElem?_getD, List.getElem?_set_self (by omega)]
      rfl
    have hu := hL (rd L i) (rd_mem L i i0 hc)
    have hlen : ((T.set x.toNat row).length : Int) = s := by rw [List.length_set]; exact hT
    have hss : (T.set x.toNat row).set x.toNat (row.set (rd L i).toNat r) = T.set x.toNat (row.set (rd L i).toNat r) := List.set_set _
    refine Cm.step (fun k => by simp (disch := omega) only [impl_net_distances.l2, if_pos hc, if_pos i0, hlen, if_pos hx.1, if_pos hx.2, hat, if_pos hu.1, hrl, if_pos hu.2, hss, w64 (i + 1)]; try rfl) (ih _ hc ⟨by omega, row.set (rd L i).toNat r, rfl, by rw [List.length_set]; exact hrl, fun v v0 v1 => ?_⟩)
    rw [rd_set row (rd L i) v _ hu.1 (by omega) v0, take_rd L i i0 hc, hrv v v0 v1]
    by_cases e : rd L i = v
    · rw [if_pos e, if_pos (List.mem_append.2 (.inr (List.mem_singleton.2 e.symm)))]
    · rw [if_neg e]
      by_cases h2 : v ∈ L.take i.toNat
      · rw [if_pos h2, if_pos (List.mem_append.2 (.inl h2))]
      · rw [if_neg h2, if_neg (fun h3 => (List.mem_append.1 h3).elim h2 (fun h4 => e (List.mem_singleton.1 h4).symm))]
  · refine Cm.step (fun k => by simp only [impl_net_distances.l2, if_neg hc]; try rfl) (hQ row hrl (fun v v0 v1 => ?_))
    rw [hrv v v0 v1, List.take_of_length_le (by omega)]
open Classical in
theorem row_ln (s : Int) (l : List S71) (hG : Gr.Good s l) (m : List Int) (hN : Net s l m) (T : List (List Int)) (x : Int) (hT : (T.length : Int) = s) (hx : 0 ≤ x ∧ x < s) (row0 : List Int) (h0 : Far s l x s row0) (x12 : Int) (Q : List (List Int) → Prop)
    (hQ : ∀ row : List Int, Lev s l x s row → Cm (fun k => impl_net_distances.l0 k (T.set x.toNat row) x12 (wrap64 (x + 1)) m) Q) :
    Cm (fun k => impl_net_distances.l1 k (T.set x.toNat row0) x s x12 x m) Q := by
  have h8 := hG.2.1
  refine Cm.meas (fun k (z : Int × List (List Int)) => impl_net_distances.l1 k z.2 x z.1 x12 x m) (fun z => (z.1 + 1).toNat) (fun z => -1 ≤ z.1 ∧ z.1 ≤ s ∧ ∃ row, z.2 = T.set x.toNat row ∧ Far s l x z.1 row) (fun _ => Q) ?_ (s, T.set x.toNat row0) ⟨by dsimp only; omega, Int.le_refl _, row0, rfl, h0⟩
  rintro ⟨r, A⟩ ⟨r0, r1, row, hA, hF⟩ ih
  dsimp only at r0 r1 hA hF
  subst hA
  by_cases hc : r ≥ 0
  · refine Cm.step (fun k => by simp only [impl_net_distances.l1, if_pos hc]; try rfl) (Cm.bind (ball_impl s l hG m hN x hx r hc (by omega)) ?_)
    rintro b ⟨hb, hbv⟩
    have hset := setP_ev b hb s h8 (fun v => decide (Rch l x r.toNat v)) (fun v v0 v1 => by
      rw [Bool.eq_iff_iff, Bool.and_eq_true, decide_eq_true_iff, decide_eq_true_iff, hbv v v0 v1]
      exact ⟨fun h => ⟨(rch_in hG hx _ v h).2, h⟩, fun h => h.2⟩)
    refine Cm.bindE hset ?_
    have hlen : ((V s).filter (fun v => decide (Rch l x r.toNat v))).length ≤ s.toNat := VF_len
    refine set_ln s h8 T x r hT hx _ (fun v hv => (mem_VF.1 hv).1) (by omega) row hF.1 m x12 Q (fun row2 h2 h3 => ?_)
    rw [w64 (r - 1) (by omega) (by omega)]
    refine ih (r - 1, T.set x.toNat row2) ⟨by dsimp only; omega, by dsimp only; omega, row2, rfl, h2, fun v v0 v1 => ?_⟩ (by dsimp only; omega)
    have hm : (v ∈ (V s).filter (fun v => decide (Rch l x r.toNat v))) ↔ Rch l x r.toNat v := by
      rw [mem_VF, decide_eq_true_iff]
      exact ⟨fun h => h.2, fun h => ⟨⟨v0, v1⟩, h⟩⟩
    have hv := h3 v v0 v1
    obtain ⟨f1, f2⟩ := hF.2 v v0 v1
    dsimp only
    by_cases hr : Rch l x r.toNat v
    · rw [if_pos (hm.2 hr)] at hv
      rw [hv]
      exact ⟨.inr ⟨by omega, r1⟩, fun n hn hs => ⟨fun _ => rch_more (by omega) hr, fun _ => ⟨hc, by omega⟩⟩⟩
    · rw [if_neg (fun h => hr (hm.1 h))] at hv
      rw [hv]
      refine ⟨?_, fun n hn hs => ?_⟩
      · rcases f1 with e | e
        · exact .inl e
        · exact .inr ⟨by omega, e.2⟩
      · by_cases hnr : (n : Int) = r
        · have hn2 : n = r.toNat := by omega
          rw [hn2]
          refine ⟨fun h => ?_, fun h => (hr h).elim⟩
          rcases f1 with e | e <;> omega
        · exact f2 n (by omega) hs
  · refine Cm.step (fun k => by simp only [impl_net_distances.l1, if_neg hc]; try rfl) (hQ row (far_lev hF (by omega)))
theorem dist_impl (s : Int) (l : List S71) (hG : Gr.Good s l) (m : List Int) (hN : Net s l m) : Cm (fun k => impl_net_distances.f k m) (fun t => (t.length : Int) = s ∧ ∀ x : Int, 0 ≤ x → x < s → Lev s l x s (t.getD x.toNat [])) := by
  have h8 := hG.2.1
  have h0 := hG.1
  have hml : (m.length : Int) = s := hN.1.1
  unfold impl_net_distances.f impl_net_size.f
  rw [hml]
  simp only [Option.bind_some]
  refine Cm.pos h0 (Cm.pos (by omega) ?_)
  have hrl : (((List.replicate s.toNat ([] : List Int)).length : Nat) : Int) = s := by rw [List.length_replicate, Int.toNat_of_nonneg h0]
  rw [hrl]
  refine Cm.up (fun k i (T : List (List Int)) => impl_net_distances.l0 k T s i m) s (fun i T => 0 ≤ i ∧ (T.length : Int) = s ∧ ∀ x : Int, 0 ≤ x → x < i → Lev s l x s (T.getD x.toNat [])) _ ?_ 0 _ h0 ⟨by omega, hrl, fun x a b => by omega⟩
  rintro i T hi ⟨i0, hT, hv⟩ ih
  by_cases hc : i < s
  · have hrep : slices_Repeat_int_int.f ([-1] : List Int) s = some (List.replicate s.toNat (-1 : Int)) := by
      unfold slices_Repeat_int_int.f
      rw [if_pos ⟨rfl, h0, h8⟩]
      rfl
    have hsz : impl_net_size.f m = some s := by unfold impl_net_size.f; rw [hml]
    refine Cm.step (fun k => by simp (disch := omega) only [impl_net_distances.l0, if_pos hc, hrep, hsz, Option.bind_some, if_pos i0, hT]; try rfl) ?_
    have hreps : ∀ v : Int, 0 ≤ v → v < s → rd (List.replicate s.toNat (-1)) v = -1 := fun v v0 v1 => by
      unfold rd
      rw [List.getD_eq_getElem?_getD, List.getElem?_replicate, if_pos (by omega)]
      rfl
    refine row_ln s l hG m hN T i hT ⟨i0, hc⟩ _ ⟨by rw [List.length_replicate]; omega, fun v v0 v1 => ⟨.inl (hreps v v0 v1), fun n h1 h2 => by omega⟩⟩ s _ (fun row hrow => ?_)
    rw [w64 (i + 1) (by omega) (by omega)]
    refine ih _ hc ⟨by omega, by rw [List.length_set]; exact hT, fun x x0 x1 => ?_⟩
    rw [List.getD_eq_getElem?_getD]
    by_cases e : x = i
    · rw [e, List.getElem?_set_self (by omega)]
      exact hrow
    · rw [List.getElem?_set_ne (by omega), ← List.getD_eq_getElem?_getD]
      exact hv x x0 (by omega)
  · refine Cm.step (fun k => by simp only [impl_net_distances.l0, if_neg hc]; try rfl) (Cm.now ⟨hT, fun x x0 x1 => hv x x0 (by omega)⟩)
/-- Both come to one table of distances. -/
theorem dist_both (s : Int) (l : List S71) (hl : l.length ≤ 1048576) (hG : Gr.Good s l) (m : List Int) (hN : Net s l m) : ∃ t : List (List Int), ((t.length : Int) = s ∧ ∀ x : Int, 0 ≤ x → x < s → Lev s l x s (t.getD x.toNat [])) ∧ Ev (fun k => spec_l2Dist.f k s l) t ∧ Ev (fun k => impl_net_distances.f k m) t := by
  obtain ⟨t, e1, h1⟩ := dist_cm s l hl hG
  obtain ⟨u, e2, h2⟩ := dist_impl s l hG m hN
  have e : t = u := by
    refine List.ext_getElem (by have := h1.1; have := h2.1; omega) (fun j j1 j2 => ?_)
    have k1 := h1.2 j (by omega) (by have := h1.1; omega)
    have k2 := h2.2 j (by omega) (by have := h1.1; omega)
    rw [Int.toNat_natCast, List.getD_eq_getElem?_getD, List.getElem?_eq_getElem j1] at k1
    rw [Int.toNat_natCast, List.getD_eq_getElem?_getD, List.getElem?_eq_getElem j2] at k2
    exact lev_ext k1 k2
  subst e
  exact ⟨t, h1, e1, e2⟩
theorem rchX_cons {l : List S71} {x u : Int} (hn : near l x u = true) : ∀ (n : Nat) (v : Int), Rch l u n v → Rch l x (n + 1) v
  | 0, v, h => .inr ⟨x, rfl, by rw [show v = u from h]; exact hn⟩
  | n + 1, v, h => h.elim (fun h => .inl (rchX_cons hn n v h)) (fun ⟨w, h1, h2⟩ => .inr ⟨w, rchX_cons hn n w h1, h2⟩)
theorem rch_symm {l : List S71} {x : Int} : ∀ (n : Nat) (v : Int), Rch l x n v → Rch l v n x
  | 0, v, h => (show v = x from h).symm
  | n + 1, v, h => h.elim (fun h => .inl (rch_symm n v h)) (fun ⟨w, h1, h2⟩ => rchX_cons ((near_symm l v w).trans h2) n x (rch_symm n w h1))
theorem rch_sum {l : List S71} {x y : Int} {m : Nat} (h : Rch l x m y) : ∀ (n : Nat) (z : Int), Rch l y n z → Rch l x (m + n) z
  | 0, z, hz => by rw [show z = y from hz]; exact h
  | n + 1, z, hz => hz.elim (fun hz => .inl (rch_sum h n z hz)) (fun ⟨w, h1, h2⟩ => .inr ⟨w, rch_sum h n w h1, h2⟩)
/-- A table of rows of distances. -/
def TabX (s : Int) (l : List S71) (t : List (List Int)) : Prop := (t.length : Int) = s ∧ ∀ x : Int, 0 ≤ x → x < s → Lev s l x s (t.getD x.toNat [])
theorem dst_iff {s : Int} {l : List S71} (hG : Gr.Good s l) {t : List (List Int)} (hT : TabX s l t) {x v : Int} (hx : 0 ≤ x ∧ x < s) (hv : 0 ≤ v ∧ v < s) (n : Nat) : (0 ≤ rd (t.getD x.toNat []) v ∧ rd (t.getD x.toNat []) v ≤ n) ↔ Rch l x n v := by
  have h := (hT.2 x hx.1 hx.2).2 v hv.1 hv.2
  by_cases hn : (n : Int) ≤ s
  · exact h.2 n hn
  · have hs := h.2 s.toNat (by omega)
    constructor
    · intro hr
      refine rch_more (n := s.toNat) (by omega) (hs.1 ?_)
      have := h.1
      omega
    · intro hr
      have := hs.2 (rch_all hG x hx n (by omega) v hr)
      omega
theorem dst_symm {s : Int} {l : List S71} (hG : Gr.Good s l) {t : List (List Int)} (hT : TabX s l t) {x v : Int} (hx : 0 ≤ x ∧ x < s) (hv : 0 ≤ v ∧ v < s) : rd (t.getD x.toNat []) v = rd (t.getD v.toNat []) x := by
  have key : ∀ {x v : Int}, (0 ≤ x ∧ x < s) → (0 ≤ v ∧ v < s) → 0 ≤ rd (t.getD x.toNat []) v → 0 ≤ rd (t.getD v.toNat []) x ∧ rd (t.getD v.toNat []) x ≤ rd (t.getD x.toNat []) v := fun {x v} hx hv h => by
    have h1 := (dst_iff hG hT hx hv (rd (t.getD x.toNat []) v).toNat).1 ⟨h, by omega⟩
    have h2 := (dst_iff hG hT hv hx _).2 (rch_symm _ _ h1)
    omega
  have a1 := ((hT.2 x hx.1 hx.2).2 v hv.1 hv.2).1
  have a2 := ((hT.2 v hv.1 hv.2).2 x hx.1 hx.2).1
  by_cases h : 0 ≤ rd (t.getD x.toNat []) v
  · have k1 := key hx hv h
    have k2 := key hv hx k1.1
    omega
  · by_cases h' : 0 ≤ rd (t.getD v.toNat []) x
    · have k2 := key hv hx h'
      omega
    · omega
theorem dst_tri {s : Int} {l : List S71} (hG : Gr.Good s l) {t : List (List Int)} (hT : TabX s l t) {x y z : Int} (hx : 0 ≤ x ∧ x < s) (hy : 0 ≤ y ∧ y < s) (hz : 0 ≤ z ∧ z < s) (h1 : 0 ≤ rd (t.getD x.toNat []) y) (h2 : 0 ≤ rd (t.getD y.toNat []) z) : 0 ≤ rd (t.getD x.toNat []) z ∧ rd (t.getD x.toNat []) z ≤ rd (t.getD x.toNat []) y + rd (t.getD y.toNat []) z := by
  have r1 := (dst_iff hG hT hx hy (rd (t.getD x.toNat []) y).toNat).1 ⟨h1, by omega⟩
  have r2 := (dst_iff hG hT hy hz (rd (t.getD y.toNat []) z).toNat).1 ⟨h2, by omega⟩
  have r3 := (dst_iff hG hT hx hz _).2 (rch_sum r1 _ _ r2)
  omega
/-- v is reached from x within P. -/
inductive Con (l : List S71) (P : Int → Bool) (x : Int) : Int → Prop
  | base : Con l P x x
  | step (u v : Int) : Con l P x u → P v = true → near l u v = true → Con l P x v
theorem con_min {l : List S71} {P : Int → Bool} {x : Int} (C : Int → Prop) (h : C x) (hs : ∀ u v, C u → P v = true → near l u v = true → C v) : ∀ v, Con l P x v → C v := by
  intro v hv
  induction hv with
  | base => exact h
  | step u v _ hp hn ih => exact hs u v ih hp hn
theorem con_in {s : Int} {l : List S71} (hG : Gr.Good s l) {P : Int → Bool} {x v : Int} (hx : 0 ≤ x ∧ x < s) (hP : P x = true) (h : Con l P x v) : (0 ≤ v ∧ v < s) ∧ P v = true :=
  con_min (fun v => (0 ≤ v ∧ v < s) ∧ P v = true) ⟨hx, hP⟩ (fun _ _ _ hp hn => ⟨(near_in hG hn).2.1, hp⟩) v h
open Classical in
noncomputable def cls (l : List S71) (P : Int → Bool) (x v : Int) : Bool := decide (Con l P x v)
open Classical in
theorem cls_iff {l : List S71} {P : Int → Bool} {x v : Int} : cls l P x v = true ↔ Con l P x v := by unfold cls; exact decide_eq_true_iff
theorem reach_ev (s : Int) (l : List S71) (hl : l.length ≤ 1048576) (hG : Gr.Good s l) (P : Int → Bool) (x : Int) (hx : 0 ≤ x ∧ x < s) (hPx : P x = true) : Ev (fun k => spec_l2Reach.f k s l ((V s).filter P) x) ((V s).filter (cls l P x)) := by
  refine Cm.ev ?_
  unfold spec_l2Reach.f
  have h8 := hG.2.1
  obtain ⟨L, hL⟩ : ∃ L, L = (V s).filter P := ⟨_, rfl⟩
  have hlen : L.length ≤ s.toNat := by rw [hL]; exact VF_len
  have hmL : ∀ b, b ∈ L ↔ (0 ≤ b ∧ b < s) ∧ P b = true := fun b => by rw [hL]; exact mem_VF
  rw [← hL]
  clear hL
  let Cl : List Int → Prop := fun a => ∀ u ∈ a, ∀ v ∈ L, near l u v = true → v ∈ a
  let Base : List Int → Prop := fun a => Up a ∧ x ∈ a ∧ ∀ v ∈ a, v ∈ L ∧ Con l P x v
  have hbl : ∀ a, Base a → a.length ≤ L.length := fun a h => nodup_le (up_nodup h.1) (fun v hv => (h.2.2 v hv).1)
  refine Cm.up (fun k i a => spec_l2Reach.l0 k L a i s l) L.length (fun i a => 0 ≤ i ∧ Base a ∧ (Cl a ∨ i + 1 ≤ (a.length : Int))) _ ?_ 0 [x] (by omega) ⟨by omega, ⟨List.pairwise_singleton _ _, List.mem_singleton.2 rfl, fun v hv => by rw [List.mem_singleton.1 hv]; exact ⟨(hmL x).2 ⟨hx, hPx⟩, Con.base⟩⟩, .inr (by simp)⟩
  rintro i a hi ⟨i0, hB, hC⟩ ih
  by_cases h : i < (L.length : Int)
  · refine Cm.step (fun k => by simp only [spec_l2Reach.l0, if_pos h]; try rfl) ?_
    refine Cm.up (fun k j b => spec_l2Reach.l1 k L b i j s l) L.length (fun j b => 0 ≤ j ∧ Base b ∧ (i + 2 ≤ (b.length : Int) ∨ ((∀ v ∈ L.take j.toNat, ∀ u ∈ b, near l u v = true → v ∈ b) ∧ (Cl b ∨ i + 1 ≤ (b.length : Int))))) _ ?_ 0 a (by omega) ⟨by omega, hB, .inr ⟨by simp, hC⟩⟩
    rintro j b hj ⟨j0, hb, hcb⟩ ihj
    have hbL := hbl b hb
    by_cases h2 : j < (L.length : Int)
    · have hyL := rd_mem L j j0 h2
      have next : ∀ c : List Int, Base c → (i + 2 ≤ (c.length : Int) ∨ ((∀ v ∈ L.take j.toNat, ∀ u ∈ c, near l u v = true → v ∈ c) ∧ (Cl c ∨ i + 1 ≤ (c.length : Int)) ∧ ∀ u ∈ c, near l u (rd L j) = true → rd L j ∈ c)) → Cm (fun k => spec_l2Reach.l1 k L c i (j + 1) s l) (fun r => r = (V s).filter (cls l P x)) := fun c hc hcc => ihj c h2 ⟨by omega, hc, hcc.imp id (fun hh => ⟨fun v hv => by
        rw [take_rd L j j0 h2] at hv
        rcases List.mem_append.1 hv with hv | hv
        · exact hh.1 v hv
        · rw [List.mem_singleton] at hv
          rw [hv]
          exact hh.2.2, hh.2.1⟩)⟩
      have stop : ∀ (c : List Int) (t : Int), Base c → rd L j ∈ c → (i + 2 ≤ (c.length : Int) ∨ ((∀ v ∈ L.take j.toNat, ∀ u ∈ c, near l u v = true → v ∈ c) ∧ (Cl c ∨ i + 1 ≤ (c.length : Int)))) → t < c.length → Cm (fun k => spec_l2Reach.l2 k L c i j t s l) (fun r => r = (V s).filter (cls l P x)) := fun c t hc hyc hcc ht => by
        have hcl := hbl c hc
        refine Cm.step (fun k => by simp only [spec_l2Reach.l2, if_pos ht, if_pos j0, if_pos h2]; try rfl) (Cm.bindE (has_ev c (rd L j) (by omega)) ?_)
        rw [decide_eq_true hyc]
        refine Cm.step (fun k => by simp (disch := omega) only [spec_l2Reach.j3, Bool.not_true, Bool.false_eq_true, if_false, w64 (j + 1)]; try rfl) (next c hc (hcc.imp id (fun hh => ⟨hh.1, hh.2, fun _ _ _ => hyc⟩)))
      refine Cm.step (fun k => by simp only [spec_l2Reach.l1, if_pos h2]; try rfl) ?_
      refine Cm.up (fun k t (_ : Unit) => spec_l2Reach.l2 k L b i j t s l) b.length (fun t _ => 0 ≤ t ∧ ∀ u ∈ b.take t.toNat, near l u (rd L j) = false) _ ?_ 0 () (by omega) ⟨by omega, by simp⟩
      rintro t _ ht ⟨t0, hn⟩ iht
      by_cases h3 : t < (b.length : Int)
      · by_cases hyb : rd L j ∈ b
        · exact stop b t hb hyb hcb h3
        · refine Cm.step (fun k => by simp only [spec_l2Reach.l2, if_pos h3, if_pos j0, if_pos h2]; try rfl) (Cm.bindE (has_ev b (rd L j) (by omega)) ?_)
          rw [decide_eq_false hyb]
          refine Cm.step (fun k => by simp (disch := omega) only [spec_l2Reach.j3, Bool.not_false, if_true, if_pos t0, if_pos h3, if_pos j0, if_pos h2, w64 (t + 1)]; try rfl) ?_
          refine Cm.bindE (near_ev s l (rd b t) (rd L j) hl) (Cm.ite (fun e => ?_) (fun e => iht () h3 ⟨by omega, fun u hu => ?_⟩))
          · refine Cm.bind (l1Put_cm b (rd L j) (by omega) hb.1 hyb) ?_
            rintro c ⟨hc1, hc2, hc3⟩
            have hbt := hb.2.2 _ (rd_mem b t t0 h3)
            have hBc : Base c := ⟨hc1, (hc2 x).2 (.inr hb.2.1), fun v hv => by
              rcases (hc2 v).1 hv with e' | e'
              · rw [e']
                exact ⟨hyL, Con.step _ _ hbt.2 ((hmL _).1 hyL).2 e⟩
              · exact hb.2.2 v e'⟩
            have hnC : ¬ Cl b := fun hC' => hyb (hC' _ (rd_mem b t t0 h3) _ hyL e)
            refine stop c (t + 1) hBc ((hc2 _).2 (.inl rfl)) (.inl ?_) (by omega)
            rcases hcb with h4 | h4
            · omega
            · have := h4.2.resolve_left hnC
              omega
          · rw [take_rd b t t0 h3] at hu
            rcases List.mem_append.1 hu with hu | hu
            · exact hn u hu
            · rw [List.mem_singleton] at hu
              rw [hu]
              exact Bool.eq_false_iff.2 e
      · have hnone : ∀ u ∈ b, near l u (rd L j) = false := by rw [take_all b t (by omega)] at hn; exact hn
        refine Cm.step (fun k => by simp only [spec_l2Reach.l2, if_neg h3]; try rfl) (Cm.step (fun k => by simp (disch := omega) only [spec_l2Reach.j3, Bool.false_eq_true, if_false, w64 (j + 1)]; try rfl) (next b hb (hcb.imp id (fun hh => ⟨hh.1, hh.2, fun u hu e => ?_⟩))))
        rw [hnone u hu] at e
        exact Bool.noConfusion e
    · refine Cm.step (fun k => by simp (disch := omega) only [spec_l2Reach.l1, if_neg h2, w64 (i + 1)]; try rfl) (ih b h ⟨by omega, hb, ?_⟩)
      rw [take_all L j (by omega)] at hcb
      exact hcb.elim (fun h4 => .inr (by omega)) (fun h4 => .inl (fun u hu v hv hn => h4.1 v hv u hu hn))
  · refine Cm.step (fun k => by simp only [spec_l2Reach.l0, if_neg h]; try rfl) (Cm.now ?_)
    have haL := hbl a hB
    have hCl : Cl a := hC.resolve_right (by omega)
    refine up_ext hB.1 (filter_up (V_up _) _) (fun v => ?_)
    rw [mem_VF, cls_iff]
    constructor
    · intro hv
      have := hB.2.2 v hv
      exact ⟨((hmL v).1 this.1).1, this.2⟩
    · rintro ⟨_, hv⟩
      exact con_min (fun v => v ∈ a) hB.2.1 (fun u v hu hp hn => hCl u hu v ((hmL v).2 ⟨(near_in hG hn).2.1, hp⟩) hn) v hv
/-- The parts of P, n at most, the one of the least node first. -/
noncomputable def partsF (s : Int) (l : List S71) : Nat → (Int → Bool) → List (List Int)
  | 0, _ => []
  | n + 1, P => match (V s).filter P with
    | [] => []
    | x :: _ => (V s).filter (cls l P x) :: partsF s l n (fun v => P v && !cls l P x v)
theorem partsF_nil {s : Int} {l : List S71} {P : Int → Bool} (h : (V s).filter P = []) : ∀ n, partsF s l n P = []
  | 0 => rfl
  | n + 1 => by unfold partsF; rw [h]
theorem partsF_cons {s : Int} {l : List S71} {P : Int → Bool} {x : Int} {t : List Int} (h : (V s).filter P = x :: t) (n : Nat) : partsF s l (n + 1) P = (V s).filter (cls l P x) :: partsF s l n (fun v => P v && !cls l P x v) := by
  conv => lhs; unfold partsF
  rw [h]
theorem rest_len {s : Int} {l : List S71} {P : Int → Bool} {x : Int} {t : List Int} (h : (V s).filter P = x :: t) : ((V s).filter (fun v => P v && !cls l P x v)).length + 1 ≤ ((V s).filter P).length := by
  have hx : x ∈ (V s).filter P := by rw [h]; exact List.mem_cons_self
  have hx' := mem_VF.1 hx
  refine nodup_le (a := x :: (V s).filter (fun v => P v && !cls l P x v)) (List.nodup_cons.2 ⟨fun hh => ?_, up_nodup (filter_up (V_up _) _)⟩) (fun y hy => ?_)
  · have := (mem_VF.1 hh).2
    rw [cls_iff.2 Con.base] at this
    simp at this
  · rcases List.mem_cons.1 hy with e | e
    · rw [e]
      exact hx
    · have := mem_VF.1 e
      rw [Bool.and_eq_true] at this
      exact mem_VF.2 ⟨this.1, this.2.1⟩
theorem low_all : ((List.range 256).all fun m => m == 0 || Go.bits .and .i64 m (wrap64 (-(m : Int))) == shl .i64 1 (((V 8).filter (bit m)).headD 0)) = true := by kernel_rfl
theorem low_ok (s : Int) (P : Int → Bool) (m x : Int) (t : List Int) (h8 : s ≤ 8) (hM : IsM s P m) (h : (V s).filter P = x :: t) : Go.bits .and .i64 m (wrap64 (-m)) = shl .i64 1 x := by
  have e : (V 8).filter (bit m) = (V s).filter P := by
    refine up_ext (filter_up (V_up _) _) (filter_up (V_up _) _) (fun v => ?_)
    rw [mem_VF, mem_VF]
    constructor
    · rintro ⟨h1, h2⟩
      rw [hM.2 v h1.1 h1.2, Bool.and_eq_true, decide_eq_true_eq] at h2
      exact ⟨⟨h1.1, h2.1⟩, h2.2⟩
    · rintro ⟨h1, h2⟩
      refine ⟨⟨h1.1, by omega⟩, ?_⟩
      rw [hM.2 v h1.1 (by omega), decide_eq_true h1.2, h2]
      rfl
  have h' := List.all_eq_true.1 low_all m.toNat (List.mem_range.2 (by have := hM.1; omega))
  rw [Int.toNat_of_nonneg hM.1.1, e, h, Bool.or_eq_true, beq_iff_eq, beq_iff_eq] at h'
  rcases h' with h' | h'
  · have hx := mem_VF.1 (show x ∈ (V s).filter P by rw [h]; exact List.mem_cons_self)
    have hm : m = 0 := by have := hM.1; omega
    have hb := hM.2 x hx.1.1 (by omega)
    rw [hm, zero_ok.2 x hx.1.1 (by omega), decide_eq_true hx.1.2, hx.2] at hb
    exact Bool.noConfusion hb
  · exact h'
theorem mask_le (a b : Int) (ha : M8 a) (hb : M8 b) (h : ∀ v : Int, 0 ≤ v → v < 8 → bit a v = true → bit b v = true) : a ≤ b := by
  have h1 := or_ok a b ha hb
  have e : Go.bits .or .i64 a b = b := mask_ext _ _ h1.1 hb (fun v v0 v1 => by
    rw [h1.2 v v0 (by omega)]
    by_cases c : bit a v = true
    · rw [h v v0 v1 c, c]; rfl
    · rw [Bool.eq_false_iff.2 c]; rfl)
  have e2 := (bits_n a.toNat b.toNat (by omega) (by omega)).2
  rw [Int.toNat_of_nonneg ha.1, Int.toNat_of_nonneg hb.1, e] at e2
  have := @Nat.left_le_or a.toNat b.toNat
  omega
/-- Each set of nodes has a mask. -/
theorem mask_of (s : Int) (P : Int → Bool) : ∃ p : Int, IsM s P p := by
  suffices h : ∀ n : Nat, n ≤ 8 → ∃ p : Int, M8 p ∧ ∀ v : Int, 0 ≤ v → v < 8 → bit p v = (decide (v < n) && (decide (v < s) && P v)) by
    obtain ⟨p, hp, hb⟩ := h 8 (by omega)
    exact ⟨p, hp, fun v v0 v1 => by rw [hb v v0 v1, decide_eq_true (show v < ((8 : Nat) : Int) by omega), Bool.true_and]⟩
  intro n
  induction n with
  | zero => exact fun _ => ⟨0, zero_ok.1, fun v v0 v1 => by rw [zero_ok.2 v v0 (by omega), decide_eq_false (show ¬ v < ((0 : Nat) : Int) by omega), Bool.false_and]⟩
  | succ n ih =>
    intro hn
    obtain ⟨p, hp, hb⟩ := ih (by omega)
    by_cases c : (decide ((n : Int) < s) && P n) = true
    · have h1 := one_ok n (by omega) (by omega)
      have h2 := or_ok p _ hp h1.1
      refine ⟨_, h2.1, fun v v0 v1 => ?_⟩
      rw [h2.2 v v0 (by omega), hb v v0 v1, h1.2 v v0 (by omega)]
      by_cases e : v = n
      · subst e
        rw [beq_self_eq_true, Bool.or_true, c, decide_eq_true (show (n : Int) < ((n + 1 : Nat) : Int) by omega)]
        rfl
      · rw [show (v == (n : Int)) = false by rw [beq_eq_false_iff_ne]; exact e, Bool.or_false, show decide (v < (n : Int)) = decide (v < ((n + 1 : Nat) : Int)) by rw [decide_eq_decide]; omega]
    · refine ⟨p, hp, fun v v0 v1 => ?_⟩
      rw [hb v v0 v1]
      by_cases e : v = n
      · subst e
        rw [Bool.eq_false_iff.2 c, Bool.and_false, Bool.and_false]
      · rw [show decide (v < (n : Int)) = decide (v < ((n + 1 : Nat) : Int)) by rw [decide_eq_decide]; omega]
/-- Masks that tell lists of nodes. -/
def Tells (s : Int) (a : List Int) (b : List (List Int)) : Prop := a.length = b.length ∧ ∀ j : Nat, j < a.length → M8 (a.getD j 0) ∧ ∀ v : Int, 0 ≤ v → v < 8 → bit (a.getD j 0) v = (decide (v < s) && decide (v ∈ b.getD j []))
theorem parts_impl (s : Int) (l : List S71) (hG : Gr.Good s l) (m : List Int) (hm : Net s l m) : ∀ (n : Nat) (P : Int → Bool) (q : Int) (acc : List Int), ((V s).filter P).length ≤ n → IsM s P q → acc.length + n ≤ 1000 →
    ∃ a, Tells s a (partsF s l n P) ∧ a.length ≤ n ∧ Ev (fun k => impl_net_parts.l0 k q acc m) (acc ++ a) := by
  intro n
  have h8 := hG.2.1
  induction n with
  | zero =>
    intro P q acc hn hq ha
    have hz : q = 0 := by
      refine mask_ext q 0 hq.1 zero_ok.1 (fun v v0 v1 => ?_)
      rw [hq.2 v v0 v1, zero_ok.2 v v0 (by omega)]
      by_cases hv : v < s
      · cases hp : P v with
        | false => rw [Bool.and_false]
        | true =>
          have := List.length_pos_of_mem (mem_VF.2 ⟨⟨v0, hv⟩, hp⟩)
          omega
      · rw [decide_eq_false hv]
        rfl
    exact ⟨[], ⟨rfl, fun j hj => absurd hj (by simp)⟩, by simp, Cm.ev (Cm.step (fun k => by simp only [impl_net_parts.l0, if_pos hz]; try rfl) (Cm.now (by rw [List.append_nil])))⟩
  | succ n ih =>
    intro P q acc hn hq ha
    cases hF : (V s).filter P with
    | nil =>
      have hz : q = 0 := by
        refine mask_ext q 0 hq.1 zero_ok.1 (fun v v0 v1 => ?_)
        rw [hq.2 v v0 v1, zero_ok.2 v v0 (by omega)]
        by_cases hv : v < s
        · cases hp : P v with
          | false => rw [Bool.and_false]
          | true =>
            have := List.length_pos_of_mem (mem_VF.2 ⟨⟨v0, hv⟩, hp⟩)
            rw [hF] at this
            simp at this
        · rw [decide_eq_false hv]
          rfl
      rw [partsF_nil hF]
      exact ⟨[], ⟨rfl, fun j hj => absurd hj (by simp)⟩, by simp, Cm.ev (Cm.step (fun k => by simp only [impl_net_parts.l0, if_pos hz]; try rfl) (Cm.now (by rw [List.append_nil])))⟩
    | cons x t =>
      have hx := mem_VF.1 (show x ∈ (V s).filter P by rw [hF]; exact List.mem_cons_self)
      have hnz : ¬ q = 0 := fun e => by
        have hb := hq.2 x hx.1.1 (by omega)
        rw [e, zero_ok.2 x hx.1.1 (by omega), decide_eq_true hx.1.2, hx.2] at hb
        exact Bool.noConfusion hb
      have h1 := one_ok x hx.1.1 (by omega)
      -- the part of x as a mask
      obtain ⟨p, hp⟩ := mask_of s (cls l P x)
      have hpq := not_ok q p hq.1 hp.1
      have hM' : IsM s (fun v => P v && !cls l P x v) (Go.bits .andNot .i64 q p) := ⟨hpq.1, fun v v0 v1 => by
        rw [hpq.2 v v0 (by omega), hq.2 v v0 v1, hp.2 v v0 v1]
        by_cases hv : v < s
        · rw [decide_eq_true hv, Bool.true_and, Bool.true_and, Bool.true_and]
        · rw [decide_eq_false hv]
          rfl⟩
      have hrl := rest_len (l := l) hF
      obtain ⟨a, hT, hal, e⟩ := ih _ (Go.bits .andNot .i64 q p) (acc ++ [p]) (by omega) hM' (by rw [List.length_append, List.length_singleton]; omega)
      refine ⟨p :: a, ?_, by rw [List.length_cons]; omega, Cm.ev ?_⟩
      · rw [partsF_cons hF]
        refine ⟨by rw [List.length_cons, List.length_cons, hT.1], fun j hj => ?_⟩
        cases j with
        | zero =>
          refine ⟨hp.1, fun v v0 v1 => ?_⟩
          rw [show (p :: a).getD 0 0 = p from rfl, hp.2 v v0 v1]
          by_cases hv : v < s
          · rw [decide_eq_true hv, Bool.true_and, Bool.true_and]
            rw [Bool.eq_iff_iff, decide_eq_true_eq]
            exact ⟨fun hc => mem_VF.2 ⟨⟨v0, hv⟩, hc⟩, fun hc => (mem_VF.1 hc).2⟩
          · rw [decide_eq_false hv]
            rfl
        | succ j => exact hT.2 j (by rw [List.length_cons] at hj; omega)
      · refine Cm.step (fun k => by simp only [impl_net_parts.l0, if_neg hnz]; try rfl) ?_
        rw [low_ok s P q x t h8 hq hF]
        refine Cm.meas (fun k b => impl_net_parts.l1 k q acc b m) (fun b => (256 - b).toNat) (fun b => M8 b ∧ bit b x = true ∧ ∀ v : Int, 0 ≤ v → v < 8 → bit b v = true → Con l P x v) (fun _ r => r = acc ++ p :: a) ?_ _ ⟨h1.1, by rw [h1.2 x hx.1.1 (by omega)]; exact beq_self_eq_true x, fun v v0 v1 hv => by
          rw [h1.2 v v0 (by omega), beq_iff_eq] at hv
          rw [hv]
          exact Con.base⟩
        rintro b ⟨hbM, hbx, hbC⟩ ihb
        refine Cm.step (fun k => by simp only [impl_net_parts.l1]; try rfl) (Cm.bind (around_cm s l h8 m hm b hbM) ?_)
        rintro r ⟨hrM, hr⟩
        have h2 := and_ok r q hrM hq.1
        have bits : ∀ v : Int, 0 ≤ v → v < 8 → (bit (Go.bits .and .i64 r q) v = true ↔ (bit b v = true ∨ ∃ u : Int, (0 ≤ u ∧ u < s) ∧ bit b u = true ∧ near l u v = true) ∧ v < s ∧ P v = true) := fun v v0 v1 => by
          rw [h2.2 v v0 (by omega), Bool.and_eq_true, hr v v0 v1, hq.2 v v0 v1, Bool.and_eq_true, decide_eq_true_eq]
        refine Cm.ite (fun e1 => ?_) (fun e1 => ihb _ ⟨h2.1, (bits x hx.1.1 (by omega)).2 ⟨.inl hbx, hx.1.2, hx.2⟩, fun v v0 v1 hv => ?_⟩ ?_)
        · have hbp : b = p := by
            refine mask_ext b p hbM hp.1 (fun v v0 v1 => ?_)
            rw [hp.2 v v0 v1, Bool.eq_iff_iff, Bool.and_eq_true, decide_eq_true_eq, cls_iff]
            constructor
            · intro hv
              have := hbC v v0 v1 hv
              exact ⟨(con_in hG hx.1 hx.2 this).1.2, this⟩
            · rintro ⟨_, hv⟩
              refine (con_min (fun v => (0 ≤ v ∧ v < s) ∧ bit b v = true) ⟨hx.1, hbx⟩ (fun u v hu hpv hn => ?_) v hv).2
              have hvn := (near_in hG hn).2.1
              refine ⟨hvn, ?_⟩
              have := (bits v hvn.1 (by omega)).2 ⟨.inr ⟨u, hu.1, hu.2, hn⟩, hvn.2, hpv⟩
              rw [e1] at this
              exact this
          rw [hbp]
          refine Cm.pos (by omega) (Cm.of e ?_)
          rw [List.append_assoc]
          rfl
        · rcases ((bits v v0 v1).1 hv).1 with h3 | ⟨u, hu, h3, h4⟩
          · exact hbC v v0 v1 h3
          · exact Con.step u v (hbC u hu.1 (by omega) h3) ((bits v v0 v1).1 hv).2.2 h4
        · have hle := mask_le b _ hbM h2.1 (fun v v0 v1 hv => (bits v v0 v1).2 ⟨.inl hv, (con_in hG hx.1 hx.2 (hbC v v0 v1 hv)).1.2, (con_in hG hx.1 hx.2 (hbC v v0 v1 hv)).2⟩)
          have hne : b ≠ Go.bits .and .i64 r q := fun e' => e1 e'.symm
          have := h2.1
          omega
theorem parts_spec (s : Int) (l : List S71) (hl : l.length ≤ 1048576) (hG : Gr.Good s l) (P : Int → Bool) (N : Nat) (hN : ((V s).filter P).length ≤ N) : Ev (fun k => spec_l2Parts.f k s l ((V s).filter P)) (partsF s l N P) := by
  refine Cm.ev ?_
  unfold spec_l2Parts.f
  have h8 := hG.2.1
  have hre := fun x hx hPx => reach_ev s l hl hG P x hx hPx
  obtain ⟨L, hL⟩ : ∃ L, L = (V s).filter P := ⟨_, rfl⟩
  have hlen : L.length ≤ s.toNat := by rw [hL]; exact VF_len
  have hmL : ∀ b, b ∈ L ↔ (0 ≤ b ∧ b < s) ∧ P b = true := fun b => by rw [hL]; exact mem_VF
  have hupL : Up L := by rw [hL]; exact filter_up (V_up _) _
  rw [← hL] at hre hN ⊢
  clear hL
  refine Cm.up (fun k i (z : List (List Int) × List Int) => spec_l2Parts.l0 k L z.1 z.2 i s l) L.length (fun i z => 0 ≤ i ∧ Up z.2 ∧ (∀ v ∈ z.2, v ∈ L) ∧ (∀ j : Int, 0 ≤ j → j < i → rd L j ∈ z.2) ∧ (∀ u ∈ z.2, ∀ v : Int, P v = true → near l u v = true → v ∈ z.2) ∧ z.1.length ≤ z.2.length ∧ ∃ n, ((V s).filter (fun v => P v && !decide (v ∈ z.2))).length ≤ n ∧ z.1 ++ partsF s l n (fun v => P v && !decide (v ∈ z.2)) = partsF s l N P) _ ?_ 0 ([], []) (by omega) ?_
  · rintro i ⟨acc, seen⟩ hi ⟨i0, hup, hsL, hdone, hcl, hac, n, hn, heq⟩ ih
    dsimp only at hup hsL hdone hcl hac hn heq
    have hseen : seen.length ≤ L.length := nodup_le (up_nodup hup) hsL
    by_cases h : i < (L.length : Int)
    · have hyL := rd_mem L i i0 h
      have hy := (hmL _).1 hyL
      obtain ⟨y, hyd⟩ : ∃ y, y = rd L i := ⟨_, rfl⟩
      refine Cm.step (fun k => by simp only [spec_l2Parts.l0, if_pos h, if_pos i0]; try rfl) ?_
      rw [← hyd] at hyL hy ⊢
      refine Cm.bindE (has_ev seen y (by omega)) (Cm.ite (fun e => ?_) (fun e => ?_))
      · have e' := of_decide_eq_true e
        rw [w64 (i + 1) (by omega) (by omega)]
        refine ih (acc, seen) h ⟨by omega, hup, hsL, fun j j0 j1 => ?_, hcl, hac, n, hn, heq⟩
        by_cases hj : j < i
        · exact hdone j j0 hj
        · rw [show j = i by omega, ← hyd]
          exact e'
      · have e' : y ∉ seen := fun h' => e (decide_eq_true h')
        refine Cm.bindE (hre y hy.1 hy.2) ?_
        -- what is reached is not seen
        have hns : ∀ v, Con l P y v → v ∉ seen ∧ P v = true := con_min (fun v => v ∉ seen ∧ P v = true) ⟨e', hy.2⟩ (fun u v hu hp hnr => ⟨fun hv => hu.1 (hcl v hv u hu.2 (by rw [near_symm]; exact hnr)), hp⟩)
        obtain ⟨t, ht⟩ : ∃ t, t = (V s).filter (cls l P y) := ⟨_, rfl⟩
        have hmt : ∀ v, v ∈ t ↔ Con l P y v := fun v => by
          rw [ht, mem_VF, cls_iff]
          exact ⟨fun h' => h'.2, fun h' => ⟨(con_in hG hy.1 hy.2 h').1, h'⟩⟩
        have htup : Up t := by rw [ht]; exact filter_up (V_up _) _
        have htl : t.length ≤ s.toNat := by rw [ht]; exact VF_len
        have htpos : 0 < t.length := List.length_pos_of_mem ((hmt y).2 Con.base)
        -- the first of those that are left
        obtain ⟨t', hF⟩ : ∃ t', (V s).filter (fun v => P v && !decide (v ∈ seen)) = y :: t' := by
          have hyF : y ∈ (V s).filter (fun v => P v && !decide (v ∈ seen)) := mem_VF.2 ⟨hy.1, by rw [hy.2, decide_eq_false e']; rfl⟩
          cases hFF : (V s).filter (fun v => P v && !decide (v ∈ seen)) with
          | nil => rw [hFF] at hyF; exact absurd hyF (by simp)
          | cons x t' =>
            have hxF := mem_VF.1 (show x ∈ (V s).filter (fun v => P v && !decide (v ∈ seen)) by rw [hFF]; exact List.mem_cons_self)
            rw [Bool.and_eq_true, Bool.not_eq_true', decide_eq_false_iff_not] at hxF
            obtain ⟨jx, jx0, jx1, hjx⟩ := mem_rd ((hmL x).2 ⟨hxF.1, hxF.2.1⟩)
            have hge : i ≤ jx := by
              by_cases hc : i ≤ jx
              · exact hc
              · exact (hxF.2.2 (by rw [← hjx]; exact hdone jx jx0 (by omega))).elim
            have hle : y ≤ x := by
              by_cases hc : i = jx
              · rw [hyd, ← hjx, hc]; omega
              · have := up_rd hupL i jx i0 (by omega) jx1
                rw [← hyd, hjx] at this
                omega
            have hupF : Up (x :: t') := by rw [← hFF]; exact filter_up (V_up _) _
            have hxy : x = y := by
              rw [hFF] at hyF
              rcases List.mem_cons.1 hyF with h1 | h1
              · exact h1.symm
              · have := List.rel_of_pairwise_cons hupF h1
                omega
            exact ⟨t', by rw [hxy]⟩
        have hcls : ∀ v, Con l (fun v => P v && !decide (v ∈ seen)) y v ↔ Con l P y v := fun v => by
          constructor
          · exact con_min (fun v => Con l P y v) Con.base (fun u v hu hp hnr => Con.step u v hu (by rw [Bool.and_eq_true] at hp; exact hp.1) hnr) v
          · intro hv
            refine (con_min (fun v => Con l (fun v => P v && !decide (v ∈ seen)) y v ∧ Con l P y v) ⟨Con.base, Con.base⟩ (fun u v hu hp hnr => ?_) v hv).1
            have hc := Con.step u v hu.2 hp hnr
            exact ⟨Con.step u v hu.1 (by rw [hp, decide_eq_false (hns v hc).1]; rfl) hnr, hc⟩
        have hclsf : cls l (fun v => P v && !decide (v ∈ seen)) y = cls l P y := funext (fun v => by rw [Bool.eq_iff_iff, cls_iff, cls_iff]; exact hcls v)
        obtain ⟨n', rfl⟩ : ∃ n', n = n' + 1 := ⟨n - 1, by rw [hF, List.length_cons] at hn; omega⟩
        have hrl := rest_len (l := l) hF
        rw [partsF_cons hF, hclsf, ← ht] at heq
        rw [hclsf] at hrl
        rw [← ht]
        refine Cm.up (fun k j b => spec_l2Parts.l1 k L acc b i t j s l) t.length (fun j b => 0 ≤ j ∧ Up b ∧ (∀ v, v ∈ b ↔ v ∈ seen ∨ v ∈ t.take j.toNat) ∧ (b.length : Int) = seen.length + j) _ ?_ 0 seen (by omega) ⟨by omega, hup, by simp, by omega⟩
        rintro j b hj ⟨j0, hbu, hbm, hbl⟩ ihj
        by_cases h2 : j < (t.length : Int)
        · have hnb : rd t j ∉ b := fun hb' => by
            rcases (hbm _).1 hb' with h3 | h3
            · exact (hns _ ((hmt _).1 (rd_mem t j j0 h2))).1 h3
            · obtain ⟨jj, hjj, hjj'⟩ := List.mem_iff_getElem.1 h3
              rw [List.length_take] at hjj
              have h4 := up_rd htup jj j (by omega) (by omega) h2
              rw [List.getElem_take] at hjj'
              rw [rd_eq t jj (by omega), hjj'] at h4
              omega
          refine Cm.step (fun k => by simp (disch := omega) only [spec_l2Parts.l1, if_pos h2, if_pos j0, w64 (j + 1)]; try rfl) (Cm.bind (l1Put_cm b (rd t j) (by omega) hbu hnb) ?_)
          rintro c ⟨hc1, hc2, hc3⟩
          refine ihj c h2 ⟨by omega, hc1, fun v => ?_, by omega⟩
          rw [hc2, hbm, take_rd t j j0 h2, List.mem_append, List.mem_singleton]
          constructor
          · rintro (h3 | h3 | h3)
            · exact .inr (.inr h3)
            · exact .inl h3
            · exact .inr (.inl h3)
          · rintro (h3 | h3 | h3)
            · exact .inr (.inl h3)
            · exact .inr (.inr h3)
            · exact .inl h3
        · rw [take_all t j (by omega)] at hbm
          have hbm' : ∀ v, v ∈ b ↔ v ∈ seen ∨ Con l P y v := fun v => by rw [hbm, hmt]
          have hfun : (fun v => (P v && !decide (v ∈ seen)) && !cls l P y v) = (fun v => P v && !decide (v ∈ b)) := funext (fun v => by
            rw [Bool.and_assoc]
            congr 1
            rw [Bool.eq_iff_iff, Bool.and_eq_true, Bool.not_eq_true', Bool.not_eq_true', Bool.not_eq_true', decide_eq_false_iff_not, decide_eq_false_iff_not, hbm', ← cls_iff, ← Bool.not_eq_true]
            exact ⟨fun h3 h4 => h4.elim h3.1 h3.2, fun h3 => ⟨fun h4 => h3 (.inl h4), fun h4 => h3 (.inr h4)⟩⟩)
          rw [hfun] at heq hrl
          refine Cm.step (fun k => by simp (disch := omega) only [spec_l2Parts.l1, if_neg h2, w64 (i + 1)]; try rfl) (Cm.pos (by omega) (ih (acc ++ [t], b) h ⟨by omega, hbu, fun v hv => ?_, fun jj j0 j1 => ?_, fun u hu v hp hnr => ?_, ?_, n', by dsimp only; omega, ?_⟩))
          · rcases (hbm' v).1 hv with h3 | h3
            · exact hsL v h3
            · exact (hmL v).2 (con_in hG hy.1 hy.2 h3)
          · refine (hbm' _).2 ?_
            by_cases hj : jj < i
            · exact .inl (hdone jj j0 hj)
            · rw [show jj = i by omega, ← hyd]
              exact .inr Con.base
          · refine (hbm' v).2 ?_
            rcases (hbm' u).1 hu with h3 | h3
            · exact .inl (hcl u h3 v hp hnr)
            · exact .inr (Con.step u v h3 hp hnr)
          · dsimp only
            rw [List.length_append, List.length_singleton]
            omega
          · dsimp only
            rw [List.append_assoc]
            exact heq
    · refine Cm.step (fun k => by simp only [spec_l2Parts.l0, if_neg h]; try rfl) (Cm.now ?_)
      have hnil : (V s).filter (fun v => P v && !decide (v ∈ seen)) = [] := by
        rw [List.filter_eq_nil_iff]
        intro v hv hc
        rw [Bool.and_eq_true, Bool.not_eq_true', decide_eq_false_iff_not] at hc
        obtain ⟨j, j0, j1, hj⟩ := mem_rd ((hmL v).2 ⟨mem_V.1 hv, hc.1⟩)
        exact hc.2 (by rw [← hj]; exact hdone j j0 (by omega))
      rw [partsF_nil hnil, List.append_nil] at heq
      exact heq
  · refine ⟨by omega, List.Pairwise.nil, by simp, fun j a b => by omega, by simp, by simp, N, ?_, ?_⟩
    · dsimp only
      rw [VF_congr (q := P) (fun v _ _ => by simp)]
      have : ((V s).filter P).length = L.length := by
        have : (V s).filter P = L := up_ext (filter_up (V_up _) _) hupL (fun v => by rw [mem_VF, hmL])
        rw [this]
      omega
    · dsimp only
      rw [List.nil_append]
      congr 1
      exact funext (fun v => by simp)
theorem bits_ev (s m : Int) (h0 : 0 ≤ s) (h8 : s ≤ 8) : Ev (fun k => spec_l2Bits.f k s m) ((V s).filter (bit m)) := by
  refine Cm.ev ?_
  unfold spec_l2Bits.f
  refine Cm.up (fun k i a => spec_l2Bits.l0 k s m a i) s (fun i a => 0 ≤ i ∧ a = (V i).filter (bit m)) _ ?_ 0 [] (by omega) ⟨by omega, rfl⟩
  rintro i a hi ⟨i0, rfl⟩ ih
  have hlen : ((V i).filter (bit m)).length ≤ i.toNat := VF_len
  by_cases h : i < s
  · by_cases e : Go.bits .and .i64 (shr .i64 m i) 1 = 1
    · refine Cm.step (fun k => by simp (disch := omega) only [spec_l2Bits.l0, if_pos h, if_pos i0, if_pos e, w64 (i + 1), if_pos]; try rfl) (ih _ h ⟨by omega, ?_⟩)
      rw [VF_succ i0, if_pos (show bit m i = true by unfold bit; rw [e]; rfl)]
    · refine Cm.step (fun k => by simp (disch := omega) only [spec_l2Bits.l0, if_pos h, if_pos i0, if_neg e, w64 (i + 1)]; try rfl) (ih _ h ⟨by omega, ?_⟩)
      rw [VF_succ i0, if_neg (show ¬ bit m i = true by unfold bit; rw [beq_iff_eq]; exact e), List.append_nil]
  · refine Cm.step (fun k => by simp only [spec_l2Bits.l0, if_neg h]; try rfl) (Cm.now ?_)
    rw [show i = s by omega]
theorem all_ev (s : Int) (l : List S71) (h0 : 0 ≤ s) (h8 : s ≤ 8) : Ev (fun k => spec_l2All.f k s l) ((V s).filter (fun _ => true)) := by
  refine Cm.ev ?_
  unfold spec_l2All.f
  have hf := full_ok s h0 h8
  refine Cm.pos h0 (Cm.bindE (bits_ev s _ h0 h8) (Cm.now ?_))
  exact VF_congr (fun x x0 x1 => by rw [hf.2 x x0 (by omega), decide_eq_true x1])
theorem mask_all {s : Int} (h0 : 0 ≤ s) (h8 : s ≤ 8) : IsM s (fun _ => true) (wrap64 (shl .i64 1 s - 1)) := by
  have h := full_ok s h0 h8
  exact ⟨h.1, fun v v0 v1 => by rw [h.2 v v0 (by omega), Bool.and_true]⟩
/-- A set without a node. -/
def without (P : Int → Bool) (x : Int) (y : Int) : Bool := P y && !(y == x)
theorem mask_without {s : Int} {P : Int → Bool} {m x : Int} (h : IsM s P m) (hx : 0 ≤ x ∧ x < 8) : IsM s (without P x) (Go.bits .andNot .i64 m (shl .i64 1 x)) := by
  have h1 := one_ok x hx.1 hx.2
  have h2 := not_ok m _ h.1 h1.1
  refine ⟨h2.1, fun v v0 v1 => ?_⟩
  rw [h2.2 v v0 (by omega), h.2 v v0 v1, h1.2 v v0 (by omega), Bool.and_assoc]
  rfl
theorem parts_form (s : Int) (l : List S71) : ∀ (n : Nat) (P : Int → Bool) (x : List Int), x ∈ partsF s l n P → ∃ Q : Int → Bool, x = (V s).filter Q := by
  intro n
  induction n with
  | zero => intro P x h; cases h
  | succ n ih =>
    intro P x h
    cases e : (V s).filter P with
    | nil => rw [partsF_nil e] at h; cases h
    | cons y t =>
      rw [partsF_cons e] at h
      rcases List.mem_cons.1 h with h | h
      · exact ⟨_, h⟩
      · exact ih _ _ h
theorem partsList_ev (s : Int) (h8 : s ≤ 8) (a : List Int) (B : List (List Int)) (hT : Tells s a B) (hn : a.length ≤ 8) (hB : ∀ x ∈ B, ∃ Q : Int → Bool, x = (V s).filter Q) : Cm (fun k => impl_PartsOf.l0 k [] a (a.length : Int) 0) (fun z => z = (B, true)) := by
  refine Cm.up (fun k i (x : List (List Int)) => impl_PartsOf.l0 k x a (a.length : Int) i) (a.length : Int) (fun i x => 0 ≤ i ∧ x = B.take i.toNat) _ ?_ 0 [] (by omega) ⟨by omega, rfl⟩
  rintro i x hi ⟨i0, rfl⟩ ih
  by_cases hc : i < (a.length : Int)
  · have hbl : i.toNat < B.length := by rw [← hT.1]; omega
    obtain ⟨h1, h2⟩ := hT.2 i.toNat (by omega)
    obtain ⟨Q, hQ⟩ := hB (B[i.toNat]) (List.getElem_mem _)
    have hg : B.getD i.toNat [] = B[i.toNat] := by rw [List.getD_eq_getElem?_getD, List.getElem?_eq_getElem hbl]; rfl
    have hset := setP_ev (a.getD i.toNat 0) h1 s h8 (fun v => decide (v ∈ B.getD i.toNat [])) h2
    have hf : (V s).filter (fun v => decide (v ∈ B.getD i.toNat [])) = B[i.toNat] := by
      rw [hg, hQ]
      refine List.filter_congr (fun v hv => ?_)
      rw [Bool.eq_iff_iff, decide_eq_true_iff, List.mem_filter]
      exact ⟨fun h => h.2, fun h => ⟨hv, h⟩⟩
    rw [hf] at hset
    have hrd : rd a i = a.getD i.toNat 0 := rfl
    have hlen : (B.take i.toNat).length < 5864062014805 := by rw [List.length_take]; omega
    refine Cm.step (fun k => by simp (disch := omega) only [impl_PartsOf.l0, if_pos hc, if_pos i0, hrd, if_pos hlen, w64 (i + 1)]; try rfl) ?_
    refine Cm.bindE hset (ih _ hc ⟨by omega, ?_⟩)
    rw [show (i + 1).toNat = i.toNat + 1 by omega, List.take_add_one, List.getElem?_eq_getElem hbl]
    rfl
  · refine Cm.step (fun k => by simp only [impl_PartsOf.l0, if_neg hc]; try rfl) (Cm.now ?_)
    rw [List.take_of_length_le (by rw [← hT.1]; omega)]
theorem parts_of (s : Int) (l : List S71) (hl : l.length ≤ 1048576) (hG : Gr.Good s l) (hI : Ev (fun k => impl_IsGraph.f k s l) true) : Ev (fun k => impl_PartsOf.f k s l) (partsF s l 8 (fun _ => true), true) := by
  have h8 := hG.2.1
  have h0 := hG.1
  obtain ⟨m, hm, hbit, hN⟩ := net_ev s l hl hG
  have hlen : ((V s).filter (fun _ => true)).length ≤ s.toNat := VF_len
  obtain ⟨a, hT, hal, e2⟩ := parts_impl s l hG m ⟨hm, hbit⟩ 8 (fun _ => true) _ [] (by omega) (mask_all h0 h8) (by simp)
  rw [List.nil_append] at e2
  exact Cm.ev (Cm.bindE hI (Cm.pos rfl (Cm.bindE hN (Cm.pos h0 (Cm.bindE e2 (partsList_ev s h8 a _ hT hal (parts_form s l 8 _)))))))
theorem table_ex (s : Int) (l : List S71) (hl : l.length ≤ 1048576) (b : Bool) (hb : b = true → Gr.Good s l ∧ Sorted l) (hS : Ev (fun k => spec_l2Good.f k s l) b) (hI : Ev (fun k => impl_IsGraph.f k s l) b) : ∃ es : List (List Int), es.length ≤ 1024 ∧ (∀ x ∈ es, List.length x ≤ 1024) ∧ Ev (fun k => spec_DistancesOf.f k s l) (es, b) ∧ Ev (fun k => impl_DistancesOf.f k s l) (es, b) ∧ (b = true → TabX s l es) := by
  cases b with
  | false => exact ⟨[], by simp, by simp, Cm.ev (Cm.bindE hS (Cm.neg (by decide) (Cm.now rfl))), Cm.ev (Cm.bindE hI (Cm.neg (by decide) (Cm.now rfl))), fun h => Bool.noConfusion h⟩
  | true =>
    obtain ⟨hG, _⟩ := hb rfl
    have h0 := hG.1
    have h8 := hG.2.1
    obtain ⟨m, hm, hbit, hN⟩ := net_ev s l hl hG
    obtain ⟨t, ⟨ht, hv⟩, e1, e2⟩ := dist_both s l hl hG m ⟨hm, hbit⟩
    refine ⟨t, by omega, ?_, Cm.ev (Cm.bindE hS (Cm.pos rfl (Cm.bindE e1 (Cm.now rfl)))), Cm.ev (Cm.bindE hI (Cm.pos rfl (Cm.bindE hN (Cm.bindE e2 (Cm.now rfl))))), fun _ => ⟨ht, hv⟩⟩
    intro x hx
    obtain ⟨j, hj, rfl⟩ := List.mem_iff_getElem.1 hx
    have k1 := (hv j (by omega) (by omega)).1
    rw [Int.toNat_natCast, List.getD_eq_getElem?_getD, List.getElem?_eq_getElem hj] at k1
    rw [Option.getD_some] at k1
    omega
theorem parts_ex (s : Int) (l : List S71) (hl : l.length ≤ 1048576) (b : Bool) (hb : b = true → Gr.Good s l ∧ Sorted l) (hS : Ev (fun k => spec_l2Good.f k s l) b) (hI : Ev (fun k => impl_IsGraph.f k s l) b) : ∃ es : List (List Int), es.length ≤ 1024 ∧ (∀ x ∈ es, List.length x ≤ 1024) ∧ Ev (fun k => spec_PartsOf.f k s l) (es, b) ∧ Ev (fun k => impl_PartsOf.f k s l) (es, b) ∧ (b = true → es = partsF s l 8 (fun _ => true)) := by
  cases b with
  | false => exact ⟨[], by simp, by simp, Cm.ev (Cm.bindE hS (Cm.neg (by decide) (Cm.now rfl))), Cm.ev (Cm.bindE hI (Cm.neg (by decide) (Cm.now rfl))), fun h => Bool.noConfusion h⟩
  | true =>
    obtain ⟨hG, hO⟩ := hb rfl
    have h8 := hG.2.1
    have h0 := hG.1
    have hlen : ((V s).filter (fun _ => true)).length ≤ s.toNat := VF_len
    obtain ⟨m, hm, hbit, hN⟩ := net_ev s l hl hG
    obtain ⟨a, hT, hal, e2⟩ := parts_impl s l hG m ⟨hm, hbit⟩ 8 (fun _ => true) _ [] (by omega) (mask_all h0 h8) (by simp)
    have e1 := parts_spec s l hl hG (fun _ => true) 8 (by omega)
    refine ⟨partsF s l 8 (fun _ => true), by rw [← hT.1]; omega, ?_, Cm.ev (Cm.bindE hS (Cm.pos rfl (Cm.bindE (all_ev s l h0 h8) (Cm.bindE e1 (Cm.now rfl))))), parts_of s l hl hG hI, fun _ => rfl⟩
    intro x hx
    obtain ⟨Q, rfl⟩ := parts_form s l 8 _ x hx
    have : ((V s).filter Q).length ≤ s.toNat := VF_len
    omega
theorem whole_ex (s : Int) (l : List S71) (hl : l.length ≤ 1048576) (b : Bool) (hb : b = true → Gr.Good s l ∧ Sorted l) (hS : Ev (fun k => spec_l2Good.f k s l) b) (hI : Ev (fun k => impl_IsGraph.f k s l) b) : ∃ r, Ev (fun k => spec_IsConnected.f k s l) (r, b) ∧ Ev (fun k => impl_IsConnected.f k s l) (r, b) ∧ (b = true → r = decide (((partsF s l 8 (fun _ => true)).length : Int) ≤ 1)) := by
  cases b with
  | false => exact ⟨false, Cm.ev (Cm.bindE hS (Cm.neg (by decide) (Cm.now rfl))), Cm.ev (Cm.bindE hI (Cm.neg (by decide) (Cm.now rfl))), fun h => Bool.noConfusion h⟩
  | true =>
    obtain ⟨hG, hO⟩ := hb rfl
    have h8 := hG.2.1
    have h0 := hG.1
    obtain ⟨m, hm, hbit, hN⟩ := net_ev s l hl hG
    have hlen : ((V s).filter (fun _ => true)).length ≤ s.toNat := VF_len
    obtain ⟨a, hT, hal, e2⟩ := parts_impl s l hG m ⟨hm, hbit⟩ 8 (fun _ => true) _ [] (by omega) (mask_all h0 h8) (by simp)
    have e1 := parts_spec s l hl hG (fun _ => true) 8 (by omega)
    rw [List.nil_append] at e2
    refine ⟨decide ((a.length : Int) ≤ 1), Cm.ev (Cm.bindE hS (Cm.pos rfl ?_)), Cm.ev (Cm.bindE hI (Cm.pos rfl (Cm.bindE hN (Cm.pos h0 (Cm.bindE e2 (Cm.now rfl)))))), fun _ => by rw [hT.1]⟩
    refine Cm.bindE (x := decide ((a.length : Int) ≤ 1)) (Cm.ev ?_) (Cm.now rfl)
    unfold spec_l2Whole.f
    refine Cm.bindE (all_ev s l h0 h8) (Cm.bindE e1 (Cm.now ?_))
    rw [hT.1]
/-- The x from x on, d of them, for which h says yes. -/
def nbF (h : Int → Bool) : Nat → Int → List Int
  | 0, _ => []
  | d + 1, x => (if h x = true then [x] else []) ++ nbF h d (x + 1)
theorem nbF_len (h : Int → Bool) : ∀ d x, (nbF h d x).length ≤ d
  | 0, _ => Nat.le_refl _
  | d + 1, x => by
    have := nbF_len h d (x + 1)
    unfold nbF
    rw [List.length_append]
    split <;> simp <;> omega
theorem nbF_congr (h h' : Int → Bool) : ∀ (d : Nat) (x : Int), (∀ z : Int, x ≤ z → z < x + (d : Int) → h z = h' z) → nbF h d x = nbF h' d x
  | 0, _, _ => rfl
  | d + 1, x, e => by
    unfold nbF
    rw [e x (by omega) (by omega), nbF_congr h h' d (x + 1) (fun z h1 h2 => e z (by omega) (by omega))]
theorem nbF_none (h : Int → Bool) : ∀ (d : Nat) (x : Int), (∀ z : Int, x ≤ z → h z = false) → nbF h d x = []
  | 0, _, _ => rfl
  | d + 1, x, e => by
    unfold nbF
    rw [e x (by omega), nbF_none h d (x + 1) (fun z h1 => e z (by omega))]
    rfl
theorem nbF_cut (h : Int → Bool) : ∀ (d e : Nat) (x : Int), (∀ z : Int, x + (d : Int) ≤ z → h z = false) → nbF h (d + e) x = nbF h d x
  | 0, e, x, hz => by rw [Nat.zero_add, nbF_none h e x (fun z h1 => hz z (by omega))]; rfl
  | d + 1, e, x, hz => by
    rw [show d + 1 + e = (d + e) + 1 by omega]
    unfold nbF
    rw [nbF_cut h d e (x + 1) (fun z h1 => hz z (by omega))]
theorem set_all : ((List.range 256).all fun m => impl_setOf.f 20 m == some (nbF (bit m) 8 0)) = true := by kernel_rfl
theorem set_ev (m : Int) (h0 : 0 ≤ m) (h1 : m < 256) : Ev (fun k => impl_setOf.f k m) (nbF (bit m) 8 0) := by
  have h := List.all_eq_true.1 set_all m.toNat (List.mem_range.2 (by omega))
  rw [Int.toNat_of_nonneg h0, beq_iff_eq] at h
  exact Ev.of (fun k => impl_setOf.mono m k) h
/-- The set of a node's mask: its neighbours. -/
theorem nbs_ev (s : Int) (l : List S71) (hg : Good s l) (r : List Int) (hm : Masks s r) (hb : ∀ u v : Int, 0 ≤ u → u < s → 0 ≤ v → v < 8 → bit (rd r u) v = near l u v) (u : Int) (hu0 : 0 ≤ u) (hu1 : u < s) :
    Ev (fun k => impl_setOf.f k (rd r u)) (nbF (near l u) s.toNat 0) := by
  have h := set_ev (rd r u) (hm.2 u hu0 hu1).1 (hm.2 u hu0 hu1).2
  have e1 : nbF (bit (rd r u)) 8 0 = nbF (near l u) 8 0 := nbF_congr _ _ 8 0 (fun z h1 h2 => hb u z hu0 hu1 h1 (by omega))
  have h8 := hg.2.1
  have h0 := hg.1
  have e2 : nbF (near l u) 8 0 = nbF (near l u) s.toNat 0 := by
    have := nbF_cut (near l u) s.toNat (8 - s.toNat) 0 (fun z h1 => near_out s l hg u z (by omega))
    rw [← this]
    congr 1
    omega
  rw [e1, e2] at h
  exact h
theorem nbs_spec (s : Int) (l : List S71) (hl : l.length ≤ 1048576) (hn : s ≤ 1000) (u : Int) : ∀ (d : Nat) (x : Int) (es : List Int), 0 ≤ x → s - x = d → (es.length : Int) ≤ x → Ev (fun k => spec_l2Neighbors.l0 k u es x s l) (es ++ nbF (near l u) d x) := by
  intro d
  induction d with
  | zero =>
    intro x es hx hd hes
    rw [show nbF (near l u) 0 x = [] from rfl, List.append_nil]
    refine Ev.step (f := fun _ => some es) (fun k => ?_) (Ev.now _)
    simp only [spec_l2Neighbors.l0]
    rw [if_neg (by omega)]
  | succ d ih =>
    intro x es hx hd hes
    have hw : wrap64 (x + 1) = x + 1 := by unfold wrap64; omega
    have hne := near_ev s l u x hl
    by_cases hc : near l u x = true
    · have hr := ih (x + 1) (es ++ [x]) (by omega) (by omega) (by rw [List.length_append, List.length_singleton]; omega)
      have e : es ++ nbF (near l u) (d + 1) x = es ++ [x] ++ nbF (near l u) d (x + 1) := by
        conv => lhs; unfold nbF
        rw [if_pos hc]
        simp
      rw [e]
      refine Ev.step (f := fun k => (spec_l2Near.f k s l u x).bind fun t => if t = true then if es.length < 17592186044416 then spec_l2Neighbors.l0 k u (es ++ [x]) (x + 1) s l else none else spec_l2Neighbors.l0 k u es (x + 1) s l) (fun k => ?_) (Ev.bind hne ?_)
      · simp only [spec_l2Neighbors.l0]
        rw [if_pos (by omega), hw]
      · refine Ev.congr (fun k => ?_) hr
        rw [if_pos hc, if_pos (by omega)]
    · have hr := ih (x + 1) es (by omega) (by omega) (by omega)
      have e : es ++ nbF (near l u) (d + 1) x = es ++ nbF (near l u) d (x + 1) := by
        conv => lhs; unfold nbF
        rw [if_neg hc]
        simp
      rw [e]
      refine Ev.step (f := fun k => (spec_l2Near.f k s l u x).bind fun t => if t = true then if es.length < 17592186044416 then spec_l2Neighbors.l0 k u (es ++ [x]) (x + 1) s l else none else spec_l2Neighbors.l0 k u es (x + 1) s l) (fun k => ?_) (Ev.bind hne ?_)
      · simp only [spec_l2Neighbors.l0]
        rw [if_pos (by omega), hw]
      · refine Ev.congr (fun k => ?_) hr
        rw [if_neg hc]
theorem lev_rch {s : Int} {l : List S71} (hG : Gr.Good s l) {x : Int} (hx : 0 ≤ x ∧ x < s) {row : List Int} (h : Lev s l x s row) (r : Int) (hr : 0 ≤ r) (v : Int) (v0 : 0 ≤ v) (v1 : v < s) : (0 ≤ rd row v ∧ rd row v ≤ r) ↔ Rch l x r.toNat v := by
  obtain ⟨h1, h2⟩ := h.2 v v0 v1
  by_cases hrs : r ≤ s
  · have := h2 r.toNat (by omega)
    rw [Int.toNat_of_nonneg hr] at this
    exact this
  · have := h2 s.toNat (by omega)
    rw [Int.toNat_of_nonneg (by omega)] at this
    constructor
    · intro h3
      exact rch_more (by omega) (this.1 ⟨h3.1, by omega⟩)
    · intro h3
      have := this.2 (rch_all hG x hx r.toNat (by omega) v h3)
      omega
open Classical in
theorem within_ev (s : Int) (l : List S71) (hl : l.length ≤ 1048576) (hG : Gr.Good s l) (x : Int) (hx : 0 ≤ x ∧ x < s) (r : Int) (hr : 0 ≤ r) : Ev (fun k => spec_l2Within.f k s l x r) ((V s).filter (fun v => decide (Rch l x r.toNat v))) := by
  refine Cm.ev ?_
  unfold spec_l2Within.f
  have h8 := hG.2.1
  obtain ⟨t, e, htl, ht⟩ := dist_cm s l hl hG
  refine Cm.bindE e (Cm.pos hx.1 (Cm.pos (by omega) ?_))
  change Cm (fun k => spec_l2Within.l0 k r [] (t.getD x.toNat []) 0 s l) _
  have hlev := ht x hx.1 hx.2
  obtain ⟨row, hrow⟩ : ∃ row, row = t.getD x.toNat [] := ⟨_, rfl⟩
  rw [← hrow] at hlev ⊢
  clear hrow
  have hrl := hlev.1
  refine Cm.up (fun k i a => spec_l2Within.l0 k r a row i s l) s (fun i a => 0 ≤ i ∧ a = (V i).filter (fun v => decide (Rch l x r.toNat v))) _ ?_ 0 [] (by omega) ⟨by omega, rfl⟩
  rintro i a hi ⟨i0, rfl⟩ ih
  have hal : ((V i).filter (fun v => decide (Rch l x r.toNat v))).length ≤ i.toNat := VF_len
  by_cases h : i < s
  · have hc := lev_rch hG hx hlev r hr i i0 h
    refine Cm.step (fun k => by simp (disch := omega) only [spec_l2Within.l0, if_pos h, if_pos i0, if_pos (show i < (row.length : Int) by omega), l1In_eq, Option.bind_some, w64 (i + 1)]; try rfl) ?_
    refine Cm.ite (fun e => Cm.pos (by omega) (ih _ h ⟨by omega, ?_⟩)) (fun e => ih _ h ⟨by omega, ?_⟩)
    · rw [VF_succ i0, if_pos (decide_eq_true (hc.1 (of_decide_eq_true e)))]
    · rw [VF_succ i0, if_neg (fun e' => e (decide_eq_true (hc.2 (of_decide_eq_true e')))), List.append_nil]
  · refine Cm.step (fun k => by simp only [spec_l2Within.l0, if_neg h]; try rfl) (Cm.now ?_)
    rw [show i = s by omega]
end Go.Proofs.Ytcjddikalgnhpaa.Gr
namespace Go.Proofs.Ytcjddikalgnhpaa.Gr
open Go.RowKit Go.Proofs.Ytcjddikalgnhpaa.P Go.Proofs.YtcjddikalgnhpaaW.PrintWords Go.Proofs.YtcjddikalgnhpaaW.PrintLast
theorem within_eq (a lo hi : Int) : impl_within.f a lo hi = some (decide (lo ≤ a ∧ a ≤ hi)) := by
  unfold impl_within.f
  by_cases h : a ≥ lo
  · rw [if_pos h]
    simp [show lo ≤ a from h]
  · rw [if_neg h]
    simp [show ¬ lo ≤ a from h]
theorem one_within (v hi : Int) : Ev (fun k => impl_allWithin.f k [v] 0 hi) (decide (0 ≤ v ∧ v ≤ hi)) := by
  refine ⟨2, fun k hk => ?_⟩
  obtain ⟨k, rfl⟩ : ∃ m, k = m + 2 := ⟨k - 2, by omega⟩
  dsimp only
  have hw : wrap64 (0 + 1) = 1 := by unfold wrap64; omega
  unfold impl_allWithin.f
  simp only [impl_allWithin.l0, within_eq, Option.bind_some, hw, decide_eq_true_eq]
  have r0 : rd [v] 0 = v := rfl
  have l1 : (([v] : List Int).length : Int) = 1 := rfl
  rw [r0, l1, if_pos (by omega), if_pos (by omega), if_pos (by omega)]
  by_cases h : 0 ≤ v ∧ v ≤ hi
  · rw [if_pos h, if_neg (by omega), decide_eq_true h]
  · rw [if_neg h, decide_eq_false h]
theorem has_one (s : Int) (l : List S71) (v : Int) (hG : Good s l) (hI : Ev (fun k => impl_IsGraph.f k s l) true) : Ev (fun k => impl_hasNodes.f k s l [v]) (decide (0 ≤ v ∧ v < s)) := by
  have h8 := hG.2.1
  have h0 := hG.1
  have hw : wrap64 (s - 1) = s - 1 := by unfold wrap64; omega
  have e : decide (0 ≤ v ∧ v < s) = decide (0 ≤ v ∧ v ≤ s - 1) := by rw [decide_eq_decide]; omega
  rw [e]
  refine Ev.bind hI (Ev.congr (f := fun k => (impl_allWithin.f k [v] 0 (wrap64 (s - 1))).bind fun t => some t) (fun k => ?_) (Ev.bind (a := decide (0 ≤ v ∧ v ≤ s - 1)) ?_ (Ev.now _)))
  · rw [if_pos rfl]
  · rw [hw]
    exact one_within v (s - 1)
theorem has_not (s : Int) (l : List S71) (L : List Int) (hI : Ev (fun k => impl_IsGraph.f k s l) false) : Ev (fun k => impl_hasNodes.f k s l L) false := by
  refine Ev.bind hI (Ev.congr (fun k => ?_) (Ev.now _))
  rfl
theorem node_eq (s : Int) (l : List S71) (v : Int) (hG : Good s l) : spec_l2Node.f s l v = some (decide (0 ≤ v ∧ v < s)) := by
  have h8 := hG.2.1
  have h0 := hG.1
  have hw : wrap64 (s - 1) = s - 1 := by unfold wrap64; omega
  have e : decide (0 ≤ v ∧ v < s) = decide (0 ≤ v ∧ v ≤ s - 1) := by rw [decide_eq_decide]; omega
  unfold spec_l2Node.f
  rw [l1In_eq, hw, e]
  rfl
end Go.Proofs.Ytcjddikalgnhpaa.Gr
namespace Go.Proofs.Ytcjddikalgnhpaa.Gr
open Go.RowKit Go.Proofs.Ytcjddikalgnhpaa.P Go.Proofs.YtcjddikalgnhpaaW.PrintWords Go.Proofs.YtcjddikalgnhpaaW.PrintLast Go.Proofs.YtcjddikalgnhpaaW.PrintMore
theorem mem_nbF (h : Int → Bool) (v : Int) : ∀ (d : Nat) (x : Int), v ∈ nbF h d x ↔ (x ≤ v ∧ v < x + (d : Int)) ∧ h v = true
  | 0, x => by
    unfold nbF
    simp only [List.not_mem_nil, false_iff]
    rintro ⟨⟨h1, h2⟩, _⟩
    omega
  | d + 1, x => by
    unfold nbF
    rw [List.mem_append, mem_nbF h v d (x + 1)]
    by_cases hx : h x = true
    · rw [if_pos hx, List.mem_singleton]
      constructor
      · rintro (rfl | ⟨⟨h1, h2⟩, h3⟩)
        · exact ⟨⟨by omega, by omega⟩, hx⟩
        · exact ⟨⟨by omega, by omega⟩, h3⟩
      · rintro ⟨⟨h1, h2⟩, h3⟩
        by_cases e : v = x
        · exact .inl e
        · exact .inr ⟨⟨by omega, by omega⟩, h3⟩
    · rw [if_neg hx]
      constructor
      · rintro (h | ⟨⟨h1, h2⟩, h3⟩)
        · cases h
        · exact ⟨⟨by omega, by omega⟩, h3⟩
      · rintro ⟨⟨h1, h2⟩, h3⟩
        by_cases e : v = x
        · rw [e] at h3; exact (hx h3).elim
        · exact .inr ⟨⟨by omega, by omega⟩, h3⟩
theorem nbs_ex (s : Int) (l : List S71) (v : Int) (hl : l.length ≤ 1048576) (hG : Gr.Good s l) (hS : Ev (fun k => spec_l2Good.f k s l) true) (hI : Ev (fun k => impl_IsGraph.f k s l) true) (hv : 0 ≤ v ∧ v < s) : Ev (fun k => spec_NeighborsOf.f k s l v) (nbF (near l v) s.toNat 0, true) ∧ Ev (fun k => impl_NeighborsOf.f k s l v) (nbF (near l v) s.toNat 0, true) := by
  have h8 := hG.2.1
  have hH := has_one s l v hG hI
  rw [decide_eq_true hv] at hH
  obtain ⟨m, hm, hb, hN⟩ := net_ev s l hl hG
  have hml := hm.1
  refine ⟨Cm.ev (Cm.bindE hS (Cm.pos rfl ?_)), Cm.ev (Cm.bindE hH (Cm.pos rfl (Cm.bindE hN (Cm.pos hv.1 (Cm.pos (by omega) (Cm.bindE (nbs_ev s l hG m hm hb v hv.1 hv.2) (Cm.now rfl)))))))⟩
  rw [node_eq s l v hG, decide_eq_true hv]
  have := nbs_spec s l hl (by omega) v s.toNat 0 [] (by omega) (by omega) (by simp)
  exact Cm.bindE (Ev.now _) (Cm.pos rfl (Cm.bindE (x := nbF (near l v) s.toNat 0) this (Cm.now rfl)))
open Classical in
theorem ball_ex (s : Int) (l : List S71) (x : Int) (hl : l.length ≤ 1048576) (hG : Gr.Good s l) (hS : Ev (fun k => spec_l2Good.f k s l) true) (hI : Ev (fun k => impl_IsGraph.f k s l) true) (hx : 0 ≤ x ∧ x < s) : Ev (fun k => spec_BallOf.f k s l x 2) ((V s).filter (fun v => decide (Rch l x 2 v)), true) ∧ Ev (fun k => impl_BallOf.f k s l x 2) ((V s).filter (fun v => decide (Rch l x 2 v)), true) := by
  have h8 := hG.2.1
  have hH := has_one s l x hG hI
  rw [decide_eq_true hx] at hH
  obtain ⟨m, hm, hbit, hN⟩ := net_ev s l hl hG
  obtain ⟨q, eq, hq, hqb⟩ := ball_impl s l hG m ⟨hm, hbit⟩ x hx 2 (by omega) (by omega)
  refine ⟨Cm.ev (Cm.bindE hS (Cm.pos rfl ?_)), Cm.ev (Cm.bindE hH (Cm.pos rfl ?_))⟩
  · rw [node_eq s l x hG, decide_eq_true hx]
    exact Cm.bindE (Ev.now _) (Cm.pos rfl (Cm.neg (by omega) (Cm.bindE (within_ev s l hl hG x hx 2 (by omega)) (Cm.now rfl))))
  · have eS := setP_ev q hq s h8 (fun v => decide (Rch l x 2 v)) (fun v v0 v1 => by
      rw [Bool.eq_iff_iff, hqb v v0 v1, Bool.and_eq_true, decide_eq_true_eq, decide_eq_true_eq]
      exact ⟨fun h => ⟨(rch_in hG hx _ v h).2, h⟩, fun h => h.2⟩)
    refine Cm.step (fun k => by simp only [impl_BallOf.j0, show decide ((2 : Int) < 0) = false from rfl, Bool.false_eq_true, if_false]; try rfl) ?_
    exact Cm.bindE hN (Cm.bindE eq (Cm.bindE eS (Cm.now rfl)))
theorem ones_all : ((List.range 256).all fun m => bits_OnesCount.f (IntKind.u64.wrap m) == some ((nbF (bit m) 8 0).length : Int)) = true := by kernel_rfl
theorem ones_eq (m : Int) (h0 : 0 ≤ m) (h1 : m < 256) : bits_OnesCount.f (IntKind.u64.wrap m) = some ((nbF (bit m) 8 0).length : Int) := by
  have h := List.all_eq_true.1 ones_all m.toNat (List.mem_range.2 (by omega))
  rw [Int.toNat_of_nonneg h0, beq_iff_eq] at h
  exact h
/-- The degrees of d nodes from u on. -/
def degF (l : List S71) (s : Int) : Nat → Int → List Int
  | 0, _ => []
  | d + 1, u => ((nbF (near l u) s.toNat 0).length : Int) :: degF l s d (u + 1)
theorem degF_len (l : List S71) (s : Int) : ∀ d u, (degF l s d u).length = d
  | 0, _ => rfl
  | d + 1, u => by unfold degF; rw [List.length_cons, degF_len l s d (u + 1)]
theorem degF_at (l : List S71) (s : Int) : ∀ (d : Nat) (u : Int) (i : Nat), i < d → (degF l s d u).getD i 0 = ((nbF (near l (u + (i : Int))) s.toNat 0).length : Int)
  | 0, _, i, h => by omega
  | d + 1, u, 0, _ => by unfold degF; simp
  | d + 1, u, i + 1, h => by
    unfold degF
    rw [List.getD_cons_succ, degF_at l s d (u + 1) i (by omega), show u + 1 + (i : Int) = u + ((i + 1 : Nat) : Int) by omega]
theorem deg_spec (s : Int) (l : List S71) (hl : l.length ≤ 1048576) (h0 : 0 ≤ s) (hn : s ≤ 1000) : ∀ (d : Nat) (u : Int) (acc : List Int), 0 ≤ u → s - u = d → (acc.length : Int) ≤ u →
    Ev (fun k => spec_DegreesOf.l0 k acc u s l) (acc ++ degF l s d u, true) := by
  intro d
  induction d with
  | zero =>
    intro u acc hu hd ha
    rw [show degF l s 0 u = [] from rfl, List.append_nil]
    refine Ev.step (f := fun _ => some (acc, true)) (fun k => ?_) (Ev.now _)
    simp only [spec_DegreesOf.l0]
    rw [if_neg (by omega)]
  | succ d ih =>
    intro u acc hu hd ha
    have hw : wrap64 (u + 1) = u + 1 := by unfold wrap64; omega
    have hr := ih (u + 1) (acc ++ [((nbF (near l u) s.toNat 0).length : Int)]) (by omega) (by omega) (by rw [List.length_append, List.length_singleton]; omega)
    have e : acc ++ degF l s (d + 1) u = acc ++ [((nbF (near l u) s.toNat 0).length : Int)] ++ degF l s d (u + 1) := by
      conv => lhs; unfold degF
      simp
    rw [e]
    have hnb : Ev (fun k => spec_l2Neighbors.f k s l u) (nbF (near l u) s.toNat 0) := nbs_spec s l hl hn u s.toNat 0 [] (by omega) (by omega) (by simp)
    refine Ev.step (f := fun k => (spec_l2Neighbors.f k s l u).bind fun t => if acc.length < 17592186044416 then spec_DegreesOf.l0 k (acc ++ [(t.length : Int)]) (u + 1) s l else none) (fun k => ?_) (Ev.bind hnb ?_)
    · simp only [spec_DegreesOf.l0]
      rw [if_pos (by omega), hw]
    · refine Ev.congr (fun k => ?_) hr
      rw [if_pos (by omega)]
theorem deg_impl (s : Int) (l : List S71) (hG : Gr.Good s l) (m : List Int) (hm : Masks s m) (hb : ∀ u v : Int, 0 ≤ u → u < s → 0 ≤ v → v < 8 → bit (rd m u) v = near l u v) :
    ∀ (d : Nat) (u : Int) (pre rest : List Int), 0 ≤ u → s - u = d → (pre.length : Int) = u → rest.length = d → Ev (fun k => impl_DegreesOf.l0 k (pre ++ rest) m m.length u) (pre ++ degF l s d u, true) := by
  have h8 := hG.2.1
  have hs0 := hG.1
  have hml := hm.1
  intro d
  induction d with
  | zero =>
    intro u pre rest hu hd hp hr
    obtain rfl := List.eq_nil_of_length_eq_zero hr
    refine Ev.step (f := fun _ => some (pre ++ [], true)) (fun k => ?_) (Ev.now _)
    simp only [impl_DegreesOf.l0]
    rw [if_neg (by omega)]
  | succ d ih =>
    intro u pre rest hu hd hp hr
    have hw : wrap64 (u + 1) = u + 1 := by unfold wrap64; omega
    obtain ⟨x, rest', rfl⟩ : ∃ x r', rest = x :: r' := by
      cases rest with
      | nil => simp at hr
      | cons x r' => exact ⟨x, r', rfl⟩
    have hr' : rest'.length = d := by simpa using hr
    have hih := ih (u + 1) (pre ++ [((nbF (near l u) s.toNat 0).length : Int)]) rest' (by omega) (by omega) (by rw [List.length_append, List.length_singleton]; omega) hr'
    have e : pre ++ degF l s (d + 1) u = pre ++ [((nbF (near l u) s.toNat 0).length : Int)] ++ degF l s d (u + 1) := by
      conv => lhs; unfold degF
      simp
    rw [e]
    have hmu := hm.2 u hu (by omega)
    have e1 : nbF (bit (rd m u)) 8 0 = nbF (near l u) 8 0 := nbF_congr _ _ 8 0 (fun z h1 h2 => hb u z hu (by omega) h1 (by omega))
    have e2 : nbF (near l u) 8 0 = nbF (near l u) s.toNat 0 := by
      have := nbF_cut (near l u) s.toNat (8 - s.toNat) 0 (fun z h1 => near_out s l hG u z (by omega))
      rw [← this]
      congr 1
      omega
    have hc : bits_OnesCount.f (IntKind.u64.wrap (rd m u)) = some ((nbF (near l u) s.toNat 0).length : Int) := by
      rw [ones_eq (rd m u) hmu.1 hmu.2, e1, e2]
    refine Ev.step (fun k => ?_) hih
    simp only [impl_DegreesOf.l0]
    rw [if_pos (by omega), if_pos hu, if_pos (by omega), hc, Option.bind_some, if_pos (by rw [List.length_append, List.length_cons]; omega), hw]
    congr 1
    rw [List.set_append_right _ _ (by omega), show u.toNat - pre.length = 0 by omega]
    simp
theorem deg_ex (s : Int) (l : List S71) (hl : l.length ≤ 1048576) (b : Bool) (hb : b = true → Gr.Good s l ∧ Sorted l) (hS : Ev (fun k => spec_l2Good.f k s l) b) (hI : Ev (fun k => impl_IsGraph.f k s l) b) : ∃ es : List Int, es.length ≤ 1024 ∧ Ev (fun k => spec_DegreesOf.f k s l) (es, b) ∧ Ev (fun k => impl_DegreesOf.f k s l) (es, b) ∧ (b = true → (es.length : Int) = s ∧ ∀ a : Int, 0 ≤ a → a < s → rd es a = ((nbF (near l a) s.toNat 0).length : Int)) := by
  cases b with
  | false => exact ⟨[], by simp, Cm.ev (Cm.bindE (Ev.now _) (Cm.bindE hS (Cm.neg (by decide) (Cm.now rfl)))), Cm.ev (Cm.bindE hI (Cm.neg (by decide) (Cm.now rfl))), fun h => Bool.noConfusion h⟩
  | true =>
    obtain ⟨hG, _⟩ := hb rfl
    have h8 := hG.2.1
    have h0 := hG.1
    obtain ⟨m, hm, hb, hN⟩ := net_ev s l hl hG
    have hi := deg_impl s l hG m hm hb s.toNat 0 [] (List.replicate s.toNat 0) (by omega) (by omega) (by simp) (by simp)
    refine ⟨degF l s s.toNat 0, by rw [degF_len]; omega, Cm.ev (Cm.bindE (Ev.now _) (Cm.bindE hS (Cm.pos rfl (Ev.cm (deg_spec s l hl h0 (by omega) s.toNat 0 [] (by omega) (by omega) (by simp)))))), Cm.ev (Cm.bindE hI (Cm.pos rfl (Cm.pos h0 (Cm.pos (by omega) (Cm.bindE hN (Ev.cm hi)))))), fun _ => ⟨by rw [degF_len]; omega, fun a a0 a1 => ?_⟩⟩
    have := degF_at l s s.toNat 0 a.toNat (by omega)
    rw [show 0 + (a.toNat : Int) = a by omega] at this
    exact this
theorem two_impl (s : Int) (l : List S71) (u v : Int) (hG : Gr.Good s l) (hI : Ev (fun k => impl_IsGraph.f k s l) true) : Ev (fun k => impl_hasNodes.f k s l [u, v]) (decide (0 ≤ u ∧ u < s) && decide (0 ≤ v ∧ v < s)) := by
  have h8 := hG.2.1
  have h0 := hG.1
  have hw : wrap64 (s - 1) = s - 1 := w64 _ (by omega) (by omega)
  have r0 : rd [u, v] 0 = u := rfl
  have r1 : rd [u, v] 1 = v := rfl
  have l1 : (([u, v] : List Int).length : Int) = 2 := rfl
  have w1 : wrap64 (0 + 1) = 1 := w64 _ (by omega) (by omega)
  have w2 : wrap64 (1 + 1) = 2 := w64 _ (by omega) (by omega)
  refine Cm.ev ?_
  unfold impl_hasNodes.f
  refine Cm.bindE hI (Cm.pos rfl (Cm.bindE (x := decide (0 ≤ u ∧ u < s) && decide (0 ≤ v ∧ v < s)) (Cm.ev ?_) (Cm.now rfl)))
  unfold impl_allWithin.f
  rw [hw, l1]
  refine Cm.step (fun k => by simp only [impl_allWithin.l0, l1, if_pos (show (0 : Int) < 2 by omega), if_pos (Int.le_refl 0), r0, within_eq, Option.bind_some, w1]; try rfl) ?_
  by_cases hu : 0 ≤ u ∧ u < s
  · rw [decide_eq_true hu, Bool.true_and]
    refine Cm.pos (decide_eq_true (by omega)) ?_
    refine Cm.step (fun k => by simp only [impl_allWithin.l0, l1, if_pos (show (1 : Int) < 2 by omega), if_pos (show (0 : Int) ≤ 1 by omega), r1, within_eq, Option.bind_some, w2]; try rfl) ?_
    by_cases hv : 0 ≤ v ∧ v < s
    · rw [decide_eq_true hv]
      refine Cm.pos (decide_eq_true (by omega)) ?_
      exact Cm.step (fun k => by simp only [impl_allWithin.l0, if_neg (show ¬ (2 : Int) < 2 by omega)]; try rfl) (Cm.now rfl)
    · rw [decide_eq_false hv]
      exact Cm.neg (by rw [decide_eq_true_eq]; omega) (Cm.now rfl)
  · rw [decide_eq_false hu, Bool.false_and]
    exact Cm.neg (by rw [decide_eq_true_eq]; omega) (Cm.now rfl)
theorem tab_ext {s : Int} {l : List S71} {t u : List (List Int)} (h1 : TabX s l t) (h2 : TabX s l u) : t = u := by
  refine List.ext_getElem (by have := h1.1; have := h2.1; omega) (fun j j1 j2 => ?_)
  have k1 := h1.2 j (by omega) (by have := h1.1; omega)
  have k2 := h2.2 j (by omega) (by have := h2.1; omega)
  rw [Int.toNat_natCast, List.getD_eq_getElem?_getD, List.getElem?_eq_getElem j1] at k1
  rw [Int.toNat_natCast, List.getD_eq_getElem?_getD, List.getElem?_eq_getElem j2] at k2
  exact lev_ext k1 k2
theorem rch_first {l : List S71} {x : Int} : ∀ (n : Nat) (v : Int), Rch l x (n + 1) v → Rch l x n v ∨ ∃ u, near l x u = true ∧ Rch l u n v := by
  intro n
  induction n with
  | zero =>
    rintro v (h | ⟨w, h1, h2⟩)
    · exact .inl h
    · rw [show w = x from h1] at h2
      exact .inr ⟨v, h2, rfl⟩
  | succ n ih =>
    rintro v (h | ⟨w, h1, h2⟩)
    · exact .inl h
    · rcases ih w h1 with h3 | ⟨u, h3, h4⟩
      · exact .inl (.inr ⟨w, h3, h2⟩)
      · exact .inr ⟨u, h3, .inr ⟨w, h4, h2⟩⟩
theorem tab_near {s : Int} {l : List S71} (hG : Gr.Good s l) {t : List (List Int)} (hT : TabX s l t) {x v : Int} (hx : 0 ≤ x ∧ x < s) (hv : 0 ≤ v ∧ v < s) : rd (rd_L6 t x) v = 1 ↔ near l x v = true := by
  obtain ⟨p1, p2⟩ := (hT.2 x hx.1 hx.2).2 v hv.1 hv.2
  have e : rd (rd_L6 t x) v = rd (t.getD x.toNat []) v := rfl
  rw [e]
  have h0 := p2 0 (by omega)
  by_cases hs : 1 ≤ s
  · have h1 := p2 1 (by omega)
    constructor
    · intro h
      rcases h1.1 (by omega) with h2 | ⟨u, h2, h3⟩
      · have := h0.2 h2
        omega
      · rw [show u = x from h2] at h3
        exact h3
    · intro h
      have h2 := h1.2 (.inr ⟨x, rfl, h⟩)
      by_cases h3 : rd (t.getD x.toNat []) v = 0
      · have h4 := h0.1 (by omega)
        exact ((near_in hG h).2.2 (show v = x from h4).symm).elim
      · omega
  · omega
theorem tab_next {s : Int} {l : List S71} (hG : Gr.Good s l) {t : List (List Int)} (hT : TabX s l t) {x y : Int} (hx : 0 ≤ x ∧ x < s) (hy : 0 ≤ y ∧ y < s) (hd : 0 < rd (rd_L6 t x) y) : ∃ u, (0 ≤ u ∧ u < s) ∧ near l x u = true ∧ rd (rd_L6 t u) y = rd (rd_L6 t x) y - 1 := by
  obtain ⟨p1, p2⟩ := (hT.2 x hx.1 hx.2).2 y hy.1 hy.2
  have e : rd (rd_L6 t x) y = rd (t.getD x.toNat []) y := rfl
  rw [e] at hd ⊢
  obtain ⟨d, hdd⟩ : ∃ d : Nat, rd (t.getD x.toNat []) y = (d : Int) + 1 := ⟨(rd (t.getD x.toNat []) y - 1).toNat, by omega⟩
  rw [hdd] at p1 p2 hd ⊢
  have h1 := (p2 (d + 1) (by omega)).1 (by omega)
  rcases rch_first d y h1 with h2 | ⟨u, h2, h3⟩
  · have := (p2 d (by omega)).2 h2
    omega
  · have hu := (near_in hG h2).2.1
    obtain ⟨q1, q2⟩ := (hT.2 u hu.1 hu.2).2 y hy.1 hy.2
    refine ⟨u, hu, h2, ?_⟩
    have e2 : rd (rd_L6 t u) y = rd (t.getD u.toNat []) y := rfl
    rw [e2]
    have h4 := (q2 d (by omega)).2 h3
    by_cases h5 : rd (t.getD u.toNat []) y = (d : Int)
    · omega
    · exfalso
      obtain ⟨c, hc⟩ : ∃ c : Nat, d = c + 1 := ⟨d - 1, by omega⟩
      have h6 := (q2 c (by omega)).1 (by omega)
      have h7 := (p2 (c + 1) (by omega)).2 (rchX_cons h2 c y h6)
      omega
theorem scan (s : Int) (l : List S71) (hl : l.length ≤ 1048576) (hG : Gr.Good s l) (t : List (List Int)) (hT : TabX s l t) (x y : Int) (hx : 0 ≤ x ∧ x < s) (hy : 0 ≤ y ∧ y < s) (acc : List Int) (ha : acc.length ≤ 1000) : ∀ (d : Nat) (i : Int), 0 ≤ i → s - i = d → (∃ u, (i ≤ u ∧ u < s) ∧ near l x u = true ∧ rd (rd_L6 t u) y = rd (rd_L6 t x) y - 1) →
    ∃ h, (0 ≤ h ∧ h < s) ∧ rd (rd_L6 t h) y = rd (rd_L6 t x) y - 1 ∧ (∀ Q, Cm (fun k => spec_FirstWay.l0 k h y t (acc ++ [h]) s l) Q → Cm (fun k => spec_FirstWay.l1 k x y t acc i s l) Q) ∧ (∀ Q, Cm (fun k => impl_FirstWay.l0 k h y t (acc ++ [h])) Q → Cm (fun k => impl_FirstWay.l1 k x y t acc (rd_L6 t x) ((rd_L6 t x).length : Int) i) Q) := by
  have h8 := hG.2.1
  have hrow : ∀ u : Int, 0 ≤ u → u < s → ((rd_L6 t u).length : Int) = s := fun u u0 u1 => (hT.2 u u0 u1).1
  have hxv : -1 ≤ rd (rd_L6 t x) y ∧ rd (rd_L6 t x) y ≤ s := by
    have := ((hT.2 x hx.1 hx.2).2 y hy.1 hy.2).1
    have e : rd (rd_L6 t x) y = rd (t.getD x.toNat []) y := rfl
    rw [e]
    omega
  have hw : wrap64 (rd (rd_L6 t x) y - 1) = rd (rd_L6 t x) y - 1 := w64 _ (by omega) (by omega)
  have htl := hT.1
  have hxl := hrow x hx.1 hx.2
  intro d
  induction d with
  | zero => rintro i i0 hi ⟨u, hu, _⟩; omega
  | succ d ih =>
    rintro i i0 hi ⟨u, hu, h1, h2⟩
    have his : i < s := by omega
    have hil := hrow i i0 his
    have hnr := tab_near hG hT hx ⟨i0, his⟩
    have hwi : wrap64 (i + 1) = i + 1 := w64 _ (by omega) (by omega)
    by_cases hn : near l x i = true
    · by_cases hv : rd (rd_L6 t i) y = rd (rd_L6 t x) y - 1
      · refine ⟨i, ⟨i0, his⟩, hv, fun Q hQ => ?_, fun Q hQ => ?_⟩
        · refine Cm.step (fun k => by simp only [spec_FirstWay.l1, htl, hxl, hil, hw]; try rfl) ?_
          exact Cm.bindE (near_ev s l x i hl) (Cm.pos hn (Cm.pos i0 (Cm.pos his (Cm.pos hy.1 (Cm.pos hy.2 (Cm.pos hx.1 (Cm.pos hx.2 (Cm.pos hy.2 (Cm.pos hv (Cm.pos (by omega) hQ))))))))))
        · refine Cm.step (fun k => by simp only [impl_FirstWay.l1, htl, hxl, hil, hw]; try rfl) ?_
          exact Cm.pos his (Cm.pos i0 (Cm.pos his (Cm.pos (hnr.2 hn) (Cm.pos his (Cm.pos hy.1 (Cm.pos hy.2 (Cm.pos hx.1 (Cm.pos hx.2 (Cm.pos hy.2 (Cm.pos hv (Cm.pos (by omega) hQ)))))))))))
      · obtain ⟨h, hh, hv2, g1, g2⟩ := ih (i + 1) (by omega) (by omega) ⟨u, ⟨by
          by_cases e : u = i
          · rw [e] at h2; exact (hv h2).elim
          · omega, hu.2⟩, h1, h2⟩
        rw [hxl] at g2
        refine ⟨h, hh, hv2, fun Q hQ => ?_, fun Q hQ => ?_⟩
        · refine Cm.step (fun k => by simp only [spec_FirstWay.l1, htl, hxl, hil, hw, hwi]; try rfl) ?_
          exact Cm.bindE (near_ev s l x i hl) (Cm.pos hn (Cm.pos i0 (Cm.pos his (Cm.pos hy.1 (Cm.pos hy.2 (Cm.pos hx.1 (Cm.pos hx.2 (Cm.pos hy.2 (Cm.neg hv (g1 Q hQ))))))))))
        · refine Cm.step (fun k => by simp only [impl_FirstWay.l1, htl, hxl, hil, hw, hwi]; try rfl) ?_
          exact Cm.pos his (Cm.pos i0 (Cm.pos his (Cm.pos (hnr.2 hn) (Cm.pos his (Cm.pos hy.1 (Cm.pos hy.2 (Cm.pos hx.1 (Cm.pos hx.2 (Cm.pos hy.2 (Cm.neg hv (g2 Q hQ)))))))))))
    · obtain ⟨h, hh, hv2, g1, g2⟩ := ih (i + 1) (by omega) (by omega) ⟨u, ⟨by
        by_cases e : u = i
        · rw [e] at h1; exact (hn h1).elim
        · omega, hu.2⟩, h1, h2⟩
      rw [hxl] at g2
      refine ⟨h, hh, hv2, fun Q hQ => ?_, fun Q hQ => ?_⟩
      · refine Cm.step (fun k => by simp only [spec_FirstWay.l1, hwi]; try rfl) ?_
        exact Cm.bindE (near_ev s l x i hl) (Cm.neg hn (g1 Q hQ))
      · refine Cm.step (fun k => by simp only [impl_FirstWay.l1, htl, hxl, hil, hw, hwi]; try rfl) ?_
        exact Cm.pos his (Cm.pos i0 (Cm.pos his (Cm.neg (fun e => hn (hnr.1 e)) (g2 Q hQ))))
theorem go_ex (s : Int) (l : List S71) (hl : l.length ≤ 1048576) (hG : Gr.Good s l) (t : List (List Int)) (hT : TabX s l t) (y : Int) (hy : 0 ≤ y ∧ y < s) : ∀ (d : Nat) (x : Int) (acc : List Int), (0 ≤ x ∧ x < s) → rd (rd_L6 t x) y = d → acc.length + d ≤ 1000 → acc.getLast? = some x →
    ∃ tl : List Int, tl.length = d ∧ (acc ++ tl).getLast? = some y ∧ Cm (fun k => spec_FirstWay.l0 k x y t acc s l) (fun z => z = (acc ++ tl, true)) ∧ Cm (fun k => impl_FirstWay.l0 k x y t acc) (fun z => z = (acc ++ tl, true)) := by
  intro d
  induction d with
  | zero =>
    intro x acc hx hd ha hlast
    have e : x = y := by
      have h1 := ((hT.2 x hx.1 hx.2).2 y hy.1 hy.2).2 0 (by omega)
      have h2 : rd (t.getD x.toNat []) y = 0 := hd
      exact (show y = x from h1.1 (by omega)).symm
    refine ⟨[], rfl, by rw [List.append_nil, hlast, e], ?_, ?_⟩
    · rw [List.append_nil]
      exact Cm.step (fun k => by simp only [spec_FirstWay.l0, if_pos e]; try rfl) (Cm.now rfl)
    · rw [List.append_nil]
      exact Cm.step (fun k => by simp only [impl_FirstWay.l0, if_pos e]; try rfl) (Cm.now rfl)
  | succ d ih =>
    intro x acc hx hd ha hlast
    have hne : ¬ x = y := by
      intro e
      have h1 := ((hT.2 x hx.1 hx.2).2 y hy.1 hy.2).2 0 (by omega)
      have h2 : rd (t.getD x.toNat []) y = ((d + 1 : Nat) : Int) := hd
      have h3 := h1.2 (show y = x from e.symm)
      omega
    obtain ⟨u, hu, h1, h2⟩ := tab_next hG hT hx hy (by omega)
    obtain ⟨h, hh, hv, g1, g2⟩ := scan s l hl hG t hT x y hx hy acc (by omega) s.toNat 0 (by omega) (by omega) ⟨u, hu, h1, h2⟩
    obtain ⟨tl, ho, hlast2, o1, o2⟩ := ih h (acc ++ [h]) hh (by omega) (by rw [List.length_append, List.length_singleton]; omega) (by simp)
    have htl := hT.1
    have e : acc ++ h :: tl = acc ++ [h] ++ tl := by simp
    refine ⟨h :: tl, by rw [List.length_cons, ho], by rw [e]; exact hlast2, ?_, ?_⟩
    · rw [e]
      exact Cm.step (fun k => by simp only [spec_FirstWay.l0, if_neg hne]; try rfl) (g1 _ o1)
    · rw [e]
      exact Cm.step (fun k => by simp only [impl_FirstWay.l0, if_neg hne, htl, if_pos hx.1, if_pos hx.2]; try rfl) (g2 _ o2)
theorem way_ex (s : Int) (l : List S71) (x y : Int) (hl : l.length ≤ 1048576) (b : Bool) (hb : b = true → Gr.Good s l ∧ Sorted l) (hS : Ev (fun k => spec_l2Good.f k s l) b) (hI : Ev (fun k => impl_IsGraph.f k s l) b) : ∃ (es : List Int) (w : Bool), es.length ≤ 1024 ∧ Ev (fun k => spec_FirstWay.f k s l x y) (es, w) ∧ Ev (fun k => impl_FirstWay.f k s l x y) (es, w) ∧ (b = false → w = false) ∧ (b = true → w = true → ∀ t, TabX s l t → (0 ≤ x ∧ x < s) ∧ (0 ≤ y ∧ y < s) ∧ (es.length : Int) = rd (t.getD x.toNat []) y + 1 ∧ (0 < (es.length : Int) ∧ (es.length : Int) ≤ 9) ∧ rd es 0 = x ∧ rd es ((es.length : Int) - 1) = y) := by
  have jT : Cm (fun k => spec_FirstWay.j0 k x y true s l) (fun z => z = (([] : List Int), false)) := Cm.step (fun k => by simp only [spec_FirstWay.j0, if_true]; try rfl) (Cm.now rfl)
  cases b with
  | false => exact ⟨[], false, by simp, Cm.ev (Cm.bindE hS (Cm.neg (by decide) jT)), Cm.ev (Cm.bindE (has_not s l _ hI) (Cm.neg (by decide) (Cm.now rfl))), fun _ => rfl, fun h => Bool.noConfusion h⟩
  | true =>
    obtain ⟨hG, _⟩ := hb rfl
    have h0 := hG.1
    have h8 := hG.2.1
    have e2 := two_impl s l x y hG hI
    have e1 : ∀ Q, Cm (fun k => spec_FirstWay.j0 k x y (!(decide (0 ≤ x ∧ x < s) && decide (0 ≤ y ∧ y < s))) s l) Q → Cm (fun k => spec_FirstWay.f k s l x y) Q := by
      intro Q hQ
      unfold spec_FirstWay.f
      refine Cm.bindE hS (Cm.pos rfl ?_)
      rw [node_eq s l x hG, node_eq s l y hG]
      simp only [Option.bind_some]
      cases h1 : decide (0 ≤ x ∧ x < s) with
      | true => rw [h1, Bool.true_and] at hQ; exact Cm.pos rfl hQ
      | false => rw [h1, Bool.false_and] at hQ; exact Cm.neg (by decide) hQ
    by_cases hxy : (0 ≤ x ∧ x < s) ∧ (0 ≤ y ∧ y < s)
    · rw [decide_eq_true hxy.1, decide_eq_true hxy.2] at e1 e2
      obtain ⟨hx, hy⟩ := hxy
      obtain ⟨m, hm, hbit, hN⟩ := net_ev s l hl hG
      obtain ⟨t, hT, t1, t2⟩ := dist_both s l hl hG m ⟨hm, hbit⟩
      have htl := hT.1
      have hrl : ((rd_L6 t x).length : Int) = s := (hT.2 x hx.1 hx.2).1
      have hxl : x < (t.length : Int) := by omega
      have hyl : y < ((rd_L6 t x).length : Int) := by omega
      have hS2 : ∀ {z : List Int × Bool}, Cm (fun k => if rd (rd_L6 t x) y < 0 then (some (([] : List Int), false)) else (spec_FirstWay.l0 k x y t [x] s l)) (fun w => w = z) → Ev (fun k => spec_FirstWay.f k s l x y) z := fun h => Cm.ev (e1 _ (Cm.step (fun k => by simp only [spec_FirstWay.j0, Bool.and_true, Bool.not_true, Bool.false_eq_true, if_false]; try rfl) (Cm.bindE t1 (Cm.pos hx.1 (Cm.pos hxl (Cm.pos hy.1 (Cm.pos hyl h)))))))
      have hI2 : ∀ {z : List Int × Bool}, Cm (fun k => if rd (rd_L6 t x) y < 0 then (some (([] : List Int), false)) else (impl_FirstWay.l0 k x y t [x])) (fun w => w = z) → Ev (fun k => impl_FirstWay.f k s l x y) z := fun h => Cm.ev (Cm.bindE e2 (Cm.pos rfl (Cm.bindE hN (Cm.bindE t2 (Cm.pos hx.1 (Cm.pos hxl (Cm.pos hy.1 (Cm.pos hyl h))))))))
      by_cases hd : rd (rd_L6 t x) y < 0
      · exact ⟨[], false, by simp, hS2 (Cm.pos hd (Cm.now rfl)), hI2 (Cm.pos hd (Cm.now rfl)), fun h => Bool.noConfusion h, fun _ h => Bool.noConfusion h⟩
      · have hle : rd (rd_L6 t x) y ≤ s := by
          have := ((hT.2 x hx.1 hx.2).2 y hy.1 hy.2).1
          have e : rd (rd_L6 t x) y = rd (t.getD x.toNat []) y := rfl
          omega
        obtain ⟨tl, ho, hlast, o1, o2⟩ := go_ex s l hl hG t hT y hy (rd (rd_L6 t x) y).toNat x [x] hx (by omega) (by rw [List.length_singleton]; omega) rfl
        have hlen : (([x] ++ tl).length : Int) = rd (rd_L6 t x) y + 1 := by rw [List.length_append, List.length_singleton]; omega
        refine ⟨[x] ++ tl, true, by omega, hS2 (Cm.neg hd o1), hI2 (Cm.neg hd o2), fun h => Bool.noConfusion h, fun _ _ t' hT' => ?_⟩
        have et : t' = t := tab_ext hT' hT
        subst et
        refine ⟨hx, hy, hlen, ⟨by omega, by omega⟩, rfl, ?_⟩
        rw [List.getLast?_eq_getElem?] at hlast
        unfold rd
        rw [List.getD_eq_getElem?_getD, show ((([x] ++ tl).length : Int) - 1).toNat = ([x] ++ tl).length - 1 by omega, hlast]
        rfl
    · have hf : (decide (0 ≤ x ∧ x < s) && decide (0 ≤ y ∧ y < s)) = false := by
        rw [Bool.eq_false_iff]
        intro h
        rw [Bool.and_eq_true, decide_eq_true_eq, decide_eq_true_eq] at h
        exact hxy h
      rw [hf] at e1 e2
      exact ⟨[], false, by simp, Cm.ev (e1 _ jT), Cm.ev (Cm.bindE e2 (Cm.neg (by decide) (Cm.now rfl))), fun h => Bool.noConfusion h, fun _ h => Bool.noConfusion h⟩
/-- A code: bytes, not too many. -/
def Code8 (C : List Int) : Prop := C.length ≤ 65536 ∧ ∀ x ∈ C, 0 ≤ x ∧ x ≤ 255
theorem code_of {C : List Int} (hl : C.length ≤ 65536) (h : ∀ x ∈ C, (Lit.int .u8 x).wf = true) : Code8 C := ⟨hl, fun x hx => by
  have h2 := h x hx
  simp only [Lit.wf, Bool.and_eq_true, decide_eq_true_eq] at h2
  exact ⟨h2.1, h2.2⟩⟩
theorem rd8 {C : List Int} (hC : Code8 C) (a : Int) : 0 ≤ rd C a ∧ rd C a ≤ 255 := by
  unfold rd
  rw [List.getD_eq_getElem?_getD]
  cases h : C[a.toNat]? with
  | none => exact ⟨by decide, by decide⟩
  | some x => exact hC.2 x (List.mem_of_getElem? h)
theorem and255 (x : Int) : 0 ≤ Go.bits .and .u64 x 255 ∧ Go.bits .and .u64 x 255 ≤ 255 := by
  have h : (BitVec.ofInt IntKind.u64.bits x &&& BitVec.ofInt IntKind.u64.bits 255).toNat ≤ 255 := by
    rw [BitVec.toNat_and]
    exact Nat.and_le_right
  have hw : ∀ n : Int, IntKind.u64.wrap n = n % 18446744073709551616 := fun n => by simp [IntKind.wrap, IntKind.bits, IntKind.signed]
  rw [show Go.bits .and .u64 x 255 = IntKind.u64.wrap ((BitVec.ofInt IntKind.u64.bits x &&& BitVec.ofInt IntKind.u64.bits 255).toNat : Int) from rfl, hw]
  omega
theorem next_cm {C : List Int} (hC : Code8 C) (a s : Int) (h0 : 0 ≤ a) (h1 : a ≤ 1000000000) : Cm (fun _ => spec_l1Cur_next.f C a s) (fun r => 0 ≤ r.1 ∧ r.1 ≤ 255 ∧ r.2.1 = a + 1) := by
  have hr := rd8 hC a
  have hw : wrap64 (a + 1) = a + 1 := w64 _ (by omega) (by omega)
  unfold spec_l1Cur_next.f
  rw [hw]
  refine Cm.ite (fun _ => Cm.pos h0 (Cm.ite (fun _ => Cm.now ?_) (fun _ => Cm.now ?_))) (fun _ => Cm.ite (fun _ => Cm.now ?_) (fun _ => Cm.now ?_))
  · dsimp only
    rw [w64 _ (by omega) (by omega)]
    exact ⟨hr.1, hr.2, rfl⟩
  · dsimp only
    have hb := and255 ((IntKind.u64.wrap ((IntKind.u64.wrap ((IntKind.u64.wrap (s * 6364136223846793005)) + (IntKind.u64.wrap (wrap64 (rd C a))))) + 462197)) / 1099511627776)
    rw [w64 _ (by omega) (by omega)]
    exact ⟨hb.1, hb.2, rfl⟩
  · exact ⟨by dsimp only; omega, by dsimp only; omega, rfl⟩
  · dsimp only
    have hb := and255 ((IntKind.u64.wrap ((IntKind.u64.wrap (IntKind.u64.wrap (s * 6364136223846793005))) + 462197)) / 1099511627776)
    rw [w64 _ (by omega) (by omega)]
    exact ⟨hb.1, hb.2, rfl⟩
/-- A number that is picked. -/
theorem pick_cm {C : List Int} (hC : Code8 C) (a s n : Int) (h0 : 0 ≤ a) (h1 : a ≤ 100000000) (hn : 1 ≤ n) (hN : n ≤ 100000) : Cm (fun _ => spec_l1Cur_pick.f C a s n) (fun r => 0 ≤ r.1 ∧ r.1 < n ∧ a ≤ r.2.1 ∧ r.2.1 ≤ a + 2) := by
  unfold spec_l1Cur_pick.f
  refine Cm.ite (fun _ => Cm.now ⟨by dsimp only; omega, by dsimp only; omega, by dsimp only; omega, by dsimp only; omega⟩) (fun hc => Cm.bind (next_cm hC a s h0 (by omega)) ?_)
  rintro ⟨x, a1, s1⟩ ⟨x0, x1, x2⟩
  dsimp only at x0 x1 x2 ⊢
  have tm : ∀ y : Int, 0 ≤ y → 0 ≤ Int.tmod y n ∧ Int.tmod y n < n := fun y hy => by
    rw [Int.tmod_eq_emod_of_nonneg hy]
    exact ⟨Int.emod_nonneg _ (by omega), Int.emod_lt_of_pos _ (by omega)⟩
  refine Cm.ite (fun hb => Cm.bind (next_cm hC a1 s1 (by omega) (by omega)) ?_) (fun hb => Cm.neg (by omega) (Cm.now ?_))
  · rintro ⟨y, a2, s2⟩ ⟨y0, y1, y2⟩
    dsimp only at y0 y1 y2 ⊢
    refine Cm.neg (by omega) (Cm.now ?_)
    dsimp only
    rw [w64 (x * 256) (by omega) (by omega), w64 (x * 256 + y) (by omega) (by omega)]
    have := tm (x * 256 + y) (by omega)
    exact ⟨this.1, this.2, by omega, by omega⟩
  · have := tm x x0
    dsimp only
    exact ⟨this.1, this.2, by omega, by omega⟩
theorem one_cm {C : List Int} (hC : Code8 C) (a s n : Int) (h0 : 0 ≤ a) (h1 : a ≤ 100000000) (hn : 1 ≤ n) (hN : n ≤ 100000) : Cm (fun _ => spec_l1Cur_one.f C a s n) (fun r => a ≤ r.2.1 ∧ r.2.1 ≤ a + 2) := by
  unfold spec_l1Cur_one.f
  refine Cm.bind (pick_cm hC a s n h0 h1 hn hN) ?_
  rintro ⟨x, a1, s1⟩ ⟨_, _, x2, x3⟩
  exact Cm.now ⟨x2, x3⟩
end Go.Proofs.Ytcjddikalgnhpaa.Gr
