/- The pure law FnExactFirstWay: both go to the least neighbor that is one step nearer. -/
import Derived.Test.YtbnhckhbjoldcaaGrDp
import Derived.Test.YtbnhckhbjoldcaaGrTi
import Derived.Test.YtbnhckhbjoldcaaGrJ
import Derived.Test.YtbnhckhbjoldcaaGrBm
import Derived.Test.YtbnhckhbjoldcaaPxImplFirstWay
import Derived.Test.YtbnhckhbjoldcaaPxLawsFnExactFirstWay
import Derived.Test.YtbnhckhbjoldcaaPxSpecFirstWay
namespace Go.Proofs.Ytbnhckhbjoldcaa.Pure
open Go.RowKit Go.Proofs.Ytbnhckhbjoldcaa.P Go.Proofs.YtbnhckhbjoldcaaW.PrintWords Go.Proofs.YtbnhckhbjoldcaaW.PrintLast Go.Proofs.YtbnhckhbjoldcaaW.PrintMore Go.Proofs.Ytbnhckhbjoldcaa.Gr

theorem rch_cons {l : List S82} {x u : Int} (hn : near l x u = true) : ∀ (n : Nat) (v : Int), Rch l u n v → Rch l x (n + 1) v
  | 0, v, h => .inr ⟨x, rfl, by rw [show v = u from h]; exact hn⟩
  | n + 1, v, h => h.elim (fun h => .inl (rch_cons hn n v h)) (fun ⟨w, h1, h2⟩ => .inr ⟨w, rch_cons hn n w h1, h2⟩)
theorem rch_first {l : List S82} {x : Int} : ∀ (n : Nat) (v : Int), Rch l x (n + 1) v → Rch l x n v ∨ ∃ u, near l x u = true ∧ Rch l u n v := by
  intro n
  induction n with
  | zero =>
    rintro v (h | ⟨w, h1, h2⟩)
    · exact .inl h
    · rw [show w = x from h1] at h2
      exact .inr ⟨v, h2, rfl⟩
  | succ n ih =>
    rintro v (h | ⟨w, h1, h2⟩)
    · exact .inl h
    · rcases ih w h1 with h3 | ⟨u, h3, h4⟩
      · exact .inl (.inr ⟨w, h3, h2⟩)
      · exact .inr ⟨u, h3, .inr ⟨w, h4, h2⟩⟩

/-- The table's rows tell the distances. -/
def Tab (s : Int) (l : List S82) (t : List (List Int)) : Prop := (t.length : Int) = s ∧ ∀ x : Int, 0 ≤ x → x < s → Lev s l x s (t.getD x.toNat [])

theorem tab_near {s : Int} {l : List S82} (hG : Gr.Good s l) {t : List (List Int)} (hT : Tab s l t) {x v : Int} (hx : 0 ≤ x ∧ x < s) (hv : 0 ≤ v ∧ v < s) : rd (rd_L2 t x) v = 1 ↔ near l x v = true := by
  obtain ⟨p1, p2⟩ := (hT.2 x hx.1 hx.2).2 v hv.1 hv.2
  have e : rd (rd_L2 t x) v = rd (t.getD x.toNat []) v := rfl
  rw [e]
  have h0 := p2 0 (by omega)
  by_cases hs : 1 ≤ s
  · have h1 := p2 1 (by omega)
    constructor
    · intro h
      rcases h1.1 (by omega) with h2 | ⟨u, h2, h3⟩
      · have := h0.2 h2
        omega
      · rw [show u = x from h2] at h3
        exact h3
    · intro h
      have h2 := h1.2 (.inr ⟨x, rfl, h⟩)
      by_cases h3 : rd (t.getD x.toNat []) v = 0
      · have h4 := h0.1 (by omega)
        exact ((near_in hG h).2.2 (show v = x from h4).symm).elim
      · omega
  · omega

theorem tab_next {s : Int} {l : List S82} (hG : Gr.Good s l) {t : List (List Int)} (hT : Tab s l t) {x y : Int} (hx : 0 ≤ x ∧ x < s) (hy : 0 ≤ y ∧ y < s) (hd : 0 < rd (rd_L2 t x) y) : ∃ u, (0 ≤ u ∧ u < s) ∧ near l x u = true ∧ rd (rd_L2 t u) y = rd (rd_L2 t x) y - 1 := by
  obtain ⟨p1, p2⟩ := (hT.2 x hx.1 hx.2).2 y hy.1 hy.2
  have e : rd (rd_L2 t x) y = rd (t.getD x.toNat []) y := rfl
  rw [e] at hd ⊢
  obtain ⟨d, hdd⟩ : ∃ d : Nat, rd (t.getD x.toNat []) y = (d : Int) + 1 := ⟨(rd (t.getD x.toNat []) y - 1).toNat, by omega⟩
  rw [hdd] at p1 p2 hd ⊢
  have h1 := (p2 (d + 1) (by omega)).1 (by omega)
  rcases rch_first d y h1 with h2 | ⟨u, h2, h3⟩
  · have := (p2 d (by omega)).2 h2
    omega
  · have hu := (near_in hG h2).2.1
    obtain ⟨q1, q2⟩ := (hT.2 u hu.1 hu.2).2 y hy.1 hy.2
    refine ⟨u, hu, h2, ?_⟩
    have e2 : rd (rd_L2 t u) y = rd (t.getD u.toNat []) y := rfl
    rw [e2]
    have h4 := (q2 d (by omega)).2 h3
    by_cases h5 : rd (t.getD u.toNat []) y = (d : Int)
    · omega
    · exfalso
      obtain ⟨c, hc⟩ : ∃ c : Nat, d = c + 1 := ⟨d - 1, by omega⟩
      have h6 := (q2 c (by omega)).1 (by omega)
      have h7 := (p2 (c + 1) (by omega)).2 (rch_cons h2 c y h6)
      omega

theorem scan (s : Int) (l : List S82) (hl : l.length ≤ 1048576) (hG : Gr.Good s l) (t : List (List Int)) (hT : Tab s l t) (x y : Int) (hx : 0 ≤ x ∧ x < s) (hy : 0 ≤ y ∧ y < s) (acc : List Int) (ha : acc.length ≤ 1000) : ∀ (d : Nat) (i : Int), 0 ≤ i → s - i = d → (∃ u, (i ≤ u ∧ u < s) ∧ near l x u = true ∧ rd (rd_L2 t u) y = rd (rd_L2 t x) y - 1) →
    ∃ h, (0 ≤ h ∧ h < s) ∧ rd (rd_L2 t h) y = rd (rd_L2 t x) y - 1 ∧ (∀ Q, Cm (fun k => spec_FirstWay.l0 k h y t (acc ++ [h]) s l) Q → Cm (fun k => spec_FirstWay.l1 k x y t acc i s l) Q) ∧ (∀ Q, Cm (fun k => impl_FirstWay.l0 k h y t (acc ++ [h])) Q → Cm (fun k => impl_FirstWay.l1 k x y t acc (rd_L2 t x) ((rd_L2 t x).length : Int) i) Q) := by
  have h8 := hG.2.1
  have hrow : ∀ u : Int, 0 ≤ u → u < s → ((rd_L2 t u).length : Int) = s := fun u u0 u1 => (hT.2 u u0 u1).1
  have hxv : -1 ≤ rd (rd_L2 t x) y ∧ rd (rd_L2 t x) y ≤ s := by
    have := ((hT.2 x hx.1 hx.2).2 y hy.1 hy.2).1
    have e : rd (rd_L2 t x) y = rd (t.getD x.toNat []) y := rfl
    rw [e]
    omega
  have hw : wrap64 (rd (rd_L2 t x) y - 1) = rd (rd_L2 t x) y - 1 := w64 _ (by omega) (by omega)
  have htl := hT.1
  have hxl := hrow x hx.1 hx.2
  intro d
  induction d with
  | zero => rintro i i0 hi ⟨u, hu, _⟩; omega
  | succ d ih =>
    rintro i i0 hi ⟨u, hu, h1, h2⟩
    have his : i < s := by omega
    have hil := hrow i i0 his
    have hnr := tab_near hG hT hx ⟨i0, his⟩
    have hwi : wrap64 (i + 1) = i + 1 := w64 _ (by omega) (by omega)

    by_cases hn : near l x i = true
    · by_cases hv : rd (rd_L2 t i) y = rd (rd_L2 t x) y - 1
      · refine ⟨i, ⟨i0, his⟩, hv, fun Q hQ => ?_, fun Q hQ => ?_⟩
        · refine Cm.step (fun k => by simp only [spec_FirstWay.l1, htl, hxl, hil, hw]; try rfl) ?_
          exact Cm.bindE (near_ev s l x i hl) (Cm.pos hn (Cm.pos i0 (Cm.pos his (Cm.pos hy.1 (Cm.pos hy.2 (Cm.pos hx.1 (Cm.pos hx.2 (Cm.pos hy.2 (Cm.pos hv (Cm.pos (by omega) hQ))))))))))
        · refine Cm.step (fun k => by simp only [impl_FirstWay.l1, htl, hxl, hil, hw]; try rfl) ?_
          exact Cm.pos his (Cm.pos i0 (Cm.pos his (Cm.pos (hnr.2 hn) (Cm.pos his (Cm.pos hy.1 (Cm.pos hy.2 (Cm.pos hx.1 (Cm.pos hx.2 (Cm.pos hy.2 (Cm.pos hv (Cm.pos (by omega) hQ)))))))))))
      · obtain ⟨h, hh, hv2, g1, g2⟩ := ih (i + 1) (by omega) (by omega) ⟨u, ⟨by
          by_cases e : u = i
          · rw [e] at h2; exact (hv h2).elim
          · omega, hu.2⟩, h1, h2⟩
        rw [hxl] at g2
        refine ⟨h, hh, hv2, fun Q hQ => ?_, fun Q hQ => ?_⟩
        · refine Cm.step (fun k => by simp only [spec_FirstWay.l1, htl, hxl, hil, hw, hwi]; try rfl) ?_
          exact Cm.bindE (near_ev s l x i hl) (Cm.pos hn (Cm.pos i0 (Cm.pos his (Cm.pos hy.1 (Cm.pos hy.2 (Cm.pos hx.1 (Cm.pos hx.2 (Cm.pos hy.2 (Cm.neg hv (g1 Q hQ))))))))))
        · refine Cm.step (fun k => by simp only [impl_FirstWay.l1, htl, hxl, hil, hw, hwi]; try rfl) ?_
          exact Cm.pos his (Cm.pos i0 (Cm.pos his (Cm.pos (hnr.2 hn) (Cm.pos his (Cm.pos hy.1 (Cm.pos hy.2 (Cm.pos hx.1 (Cm.pos hx.2 (Cm.pos hy.2 (Cm.neg hv (g2 Q hQ)))))))))))
    · obtain ⟨h, hh, hv2, g1, g2⟩ := ih (i + 1) (by omega) (by omega) ⟨u, ⟨by
        by_cases e : u = i
        · rw [e] at h1; exact (hn h1).elim
        · omega, hu.2⟩, h1, h2⟩
      rw [hxl] at g2
      refine ⟨h, hh, hv2, fun Q hQ => ?_, fun Q hQ => ?_⟩
      · refine Cm.step (fun k => by simp only [spec_FirstWay.l1, hwi]; try rfl) ?_
        exact Cm.bindE (near_ev s l x i hl) (Cm.neg hn (g1 Q hQ))
      · refine Cm.step (fun k => by simp only [impl_FirstWay.l1, htl, hxl, hil, hw, hwi]; try rfl) ?_
        exact Cm.pos his (Cm.pos i0 (Cm.pos his (Cm.neg (fun e => hn (hnr.1 e)) (g2 Q hQ))))

theorem go_on (s : Int) (l : List S82) (hl : l.length ≤ 1048576) (hG : Gr.Good s l) (t : List (List Int)) (hT : Tab s l t) (y : Int) (hy : 0 ≤ y ∧ y < s) : ∀ (d : Nat) (x : Int) (acc : List Int), (0 ≤ x ∧ x < s) → rd (rd_L2 t x) y = d → acc.length + d ≤ 1000 →
    ∃ out, out.length ≤ 1000 ∧ Cm (fun k => spec_FirstWay.l0 k x y t acc s l) (fun z => z = (out, true)) ∧ Cm (fun k => impl_FirstWay.l0 k x y t acc) (fun z => z = (out, true)) := by
  intro d
  induction d with
  | zero =>
    intro x acc hx hd ha
    have e : x = y := by
      have h1 := ((hT.2 x hx.1 hx.2).2 y hy.1 hy.2).2 0 (by omega)
      have h2 : rd (t.getD x.toNat []) y = 0 := hd
      exact (show y = x from h1.1 (by omega)).symm
    exact ⟨acc, by omega, Cm.step (fun k => by simp only [spec_FirstWay.l0, if_pos e]; try rfl) (Cm.now rfl), Cm.step (fun k => by simp only [impl_FirstWay.l0, if_pos e]; try rfl) (Cm.now rfl)⟩
  | succ d ih =>
    intro x acc hx hd ha
    have hne : ¬ x = y := by
      intro e
      have h1 := ((hT.2 x hx.1 hx.2).2 y hy.1 hy.2).2 0 (by omega)
      have h2 : rd (t.getD x.toNat []) y = ((d + 1 : Nat) : Int) := hd
      have h3 := h1.2 (show y = x from e.symm)
      omega
    obtain ⟨u, hu, h1, h2⟩ := tab_next hG hT hx hy (by omega)
    obtain ⟨h, hh, hv, g1, g2⟩ := scan s l hl hG t hT x y hx hy acc (by omega) s.toNat 0 (by omega) (by omega) ⟨u, hu, h1, h2⟩
    obtain ⟨out, ho, o1, o2⟩ := ih h (acc ++ [h]) hh (by omega) (by rw [List.length_append, List.length_singleton]; omega)
    have htl := hT.1
    refine ⟨out, ho, ?_, ?_⟩
    · exact Cm.step (fun k => by simp only [spec_FirstWay.l0, if_neg hne]; try rfl) (g1 _ o1)
    · exact Cm.step (fun k => by simp only [impl_FirstWay.l0, if_neg hne, htl, if_pos hx.1, if_pos hx.2]; try rfl) (g2 _ o2)

theorem both (s : Int) (l : List S82) (x y : Int) (hl : l.length ≤ 1048576) : ∃ es b, es.length ≤ 1048576 ∧ Ev (fun k => spec_FirstWay.f k s l x y) (es, b) ∧ Ev (fun k => impl_FirstWay.f k s l x y) (es, b) := by
  obtain ⟨b, hb, hS, hI⟩ := isGraph_full s l hl
  have jT : Cm (fun k => spec_FirstWay.j0 k x y true s l) (fun z => z = (([] : List Int), false)) := Cm.step (fun k => by simp only [spec_FirstWay.j0, if_true]; try rfl) (Cm.now rfl)
  cases b with
  | false => exact ⟨[], false, by simp, Cm.ev (Cm.bindE hS (Cm.neg (by decide) jT)), Cm.ev (Cm.bindE (has_not s l _ hI) (Cm.neg (by decide) (Cm.now rfl)))⟩
  | true =>
    obtain ⟨hG, _⟩ := hb rfl
    have h0 := hG.1
    have h8 := hG.2.1
    have e2 := two_impl s l x y hG hI
    have e1 : ∀ Q, Cm (fun k => spec_FirstWay.j0 k x y (!(decide (0 ≤ x ∧ x < s) && decide (0 ≤ y ∧ y < s))) s l) Q → Cm (fun k => spec_FirstWay.f k s l x y) Q := by
      intro Q hQ
      unfold spec_FirstWay.f
      refine Cm.bindE hS (Cm.pos rfl ?_)
      rw [node_eq s l x hG, node_eq s l y hG]
      simp only [Option.bind_some]
      cases h1 : decide (0 ≤ x ∧ x < s) with
      | true => rw [h1, Bool.true_and] at hQ; exact Cm.pos rfl hQ
      | false => rw [h1, Bool.false_and] at hQ; exact Cm.neg (by decide) hQ
    by_cases hxy : (0 ≤ x ∧ x < s) ∧ (0 ≤ y ∧ y < s)
    · rw [decide_eq_true hxy.1, decide_eq_true hxy.2] at e1 e2
      obtain ⟨hx, hy⟩ := hxy
      obtain ⟨m, hm, hbit, hN⟩ := net_ev s l hl hG
      obtain ⟨t, hT, t1, t2⟩ := dist_both s l hl hG m ⟨hm, hbit⟩
      have htl := hT.1
      have hrl : ((rd_L2 t x).length : Int) = s := (hT.2 x hx.1 hx.2).1
      have hxl : x < (t.length : Int) := by omega
      have hyl : y < ((rd_L2 t x).length : Int) := by omega
      have hS2 : ∀ {z : List Int × Bool}, Cm (fun k => if rd (rd_L2 t x) y < 0 then (some (([] : List Int), false)) else (spec_FirstWay.l0 k x y t [x] s l)) (fun w => w = z) → Ev (fun k => spec_FirstWay.f k s l x y) z := fun h => Cm.ev (e1 _ (Cm.step (fun k => by simp only [spec_FirstWay.j0, Bool.and_true, Bool.not_true, Bool.false_eq_true, if_false]; try rfl) (Cm.bindE t1 (Cm.pos hx.1 (Cm.pos hxl (Cm.pos hy.1 (Cm.pos hyl h)))))))
      have hI2 : ∀ {z : List Int × Bool}, Cm (fun k => if rd (rd_L2 t x) y < 0 then (some (([] : List Int), false)) else (impl_FirstWay.l0 k x y t [x])) (fun w => w = z) → Ev (fun k => impl_FirstWay.f k s l x y) z := fun h => Cm.ev (Cm.bindE e2 (Cm.pos rfl (Cm.bindE hN (Cm.bindE t2 (Cm.pos hx.1 (Cm.pos hxl (Cm.pos hy.1 (Cm.pos hyl h))))))))
      by_cases hd : rd (rd_L2 t x) y < 0
      · exact ⟨[], false, by simp, hS2 (Cm.pos hd (Cm.now rfl)), hI2 (Cm.pos hd (Cm.now rfl))⟩
      · have hle : rd (rd_L2 t x) y ≤ s := by
          have := ((hT.2 x hx.1 hx.2).2 y hy.1 hy.2).1
          have e : rd (rd_L2 t x) y = rd (t.getD x.toNat []) y := rfl
          omega
        obtain ⟨out, ho, o1, o2⟩ := go_on s l hl hG t hT y hy (rd (rd_L2 t x) y).toNat x [x] hx (by omega) (by rw [List.length_singleton]; omega)
        exact ⟨out, true, by omega, hS2 (Cm.neg hd o1), hI2 (Cm.neg hd o2)⟩
    · have hf : (decide (0 ≤ x ∧ x < s) && decide (0 ≤ y ∧ y < s)) = false := by
        rw [Bool.eq_false_iff]
        intro h
        rw [Bool.and_eq_true, decide_eq_true_eq, decide_eq_true_eq] at h
        exact hxy h
      rw [hf] at e1 e2
      exact ⟨[], false, by simp, Cm.ev (e1 _ jT), Cm.ev (Cm.bindE e2 (Cm.neg (by decide) (Cm.now rfl)))⟩

theorem FnExactFirstWay : laws_FnExactFirstWay.Pure := by
  intro s0 l0 x1 x2 hs0 hl0 hx0 hw1 hw2
  refine Ev.rounds (Cm.ev ?_)
  unfold laws_FnExactFirstWay.f
  by_cases c0 : (1048576 : Int) - l0.length < 0
  · exact Cm.bindE (sz_ev (sz_big s0 l0 hl0 c0)) (Cm.pos (by decide) (Cm.now rfl))
  refine Cm.bindE (sz_ev (sz_small s0 l0 (by omega))) (Cm.neg c0 ?_)
  obtain ⟨es, b, he, E1, E2⟩ := both s0 l0 x1 x2 (by omega)
  obtain ⟨r0, M0⟩ := mark_at s0 l0 ((1 : Int)) (by omega) (by omega) (by omega)
  obtain ⟨re, E3, E4⟩ := mark_heldI es (by omega)
  have a_b : ¬ (b != b) = true := by cases b <;> decide
  repeat first
    | with_reducible exact Cm.now rfl
    | refine Cm.bindE (toGraph_ev s0 l0 (by omega)) ?_
    | refine Cm.bindE E1 ?_
    | refine Cm.bindE E2 ?_
    | refine Cm.bindE (eqI_ev es (by omega)) (Cm.pos rfl ?_)
    | refine Cm.bindE (eqGraph_ev s0 l0 (by omega)) (Cm.pos rfl ?_)
    | refine Cm.bindE M0 ?_
    | refine Cm.bindE E3 ?_
    | refine Cm.bindE E4 ?_
    | refine Cm.neg a_b ?_
    | refine Cm.neg (by omega) ?_
    | refine Cm.pos (by omega) ?_
    | refine Cm.pos rfl ?_
    | dsimp only

end Go.Proofs.Ytbnhckhbjoldcaa.Pure
