/- The masks of a good graph tell who is near whom; no conditions beyond those that each theorem names. -/
import Derived.Test.YtooboeahekdibaaGrN
import Derived.Test.YtooboeahekdibaaPxImplNetOf
namespace Go.Proofs.Ytooboeahekdibaa.Gr
open Go.RowKit Go.Proofs.Ytooboeahekdibaa.P Go.Proofs.YtooboeahekdibaaW.PrintWords Go.Proofs.YtooboeahekdibaaW.PrintLast Go.Proofs.YtooboeahekdibaaW.PrintMore

theorem rd_set (m : List Int) (i j x : Int) (h0 : 0 ≤ i) (h1 : i < m.length) (h2 : 0 ≤ j) : rd (m.set i.toNat x) j = if i = j then x else rd m j := by
  unfold rd
  rw [List.getD_eq_getElem?_getD, List.getD_eq_getElem?_getD]
  by_cases h : i = j
  · subst h
    rw [List.getElem?_set_self (by omega), if_pos rfl]
    rfl
  · rw [List.getElem?_set_ne (by omega), if_neg h]

/-- Masks of n nodes. -/
def Masks (s : Int) (m : List Int) : Prop := (m.length : Int) = s ∧ ∀ u : Int, 0 ≤ u → u < s → 0 ≤ rd m u ∧ rd m u < 256

theorem net_loop (s : Int) (l : List S59) (hl : l.length ≤ 1048576) (hg : Good s l) : ∀ (d : Nat) (i : Int) (m : List Int), 0 ≤ i → (l.length : Int) - i = d → Masks s m →
    ∃ r, Masks s r ∧ (∀ u v : Int, 0 ≤ u → u < s → 0 ≤ v → v < 8 → bit (rd r u) v = (bit (rd m u) v || nearF l u v d i)) ∧ Ev (fun k => impl_netOf.l0 k l l.length i m) r := by
  intro d
  induction d with
  | zero =>
    intro i m hi hd hm
    refine ⟨m, hm, fun u v _ _ _ _ => by simp [nearF], Ev.step (f := fun _ => some m) (fun k => ?_) (Ev.now m)⟩
    simp only [impl_netOf.l0]
    rw [if_neg (by omega)]
  | succ d ih =>
    intro i m hi hd hm
    obtain ⟨hs0, hs8, hgood⟩ := hg
    obtain ⟨g0, g1, g2⟩ := hgood i hi (by omega)
    have hw : wrap64 (i + 1) = i + 1 := by unfold wrap64; omega
    have hlen := hm.1
    obtain ⟨a, ha⟩ : ∃ a, a = (rd_T59 l i).f0 := ⟨_, rfl⟩
    obtain ⟨b, hb⟩ : ∃ b, b = (rd_T59 l i).f1 := ⟨_, rfl⟩
    rw [← ha] at g0 g1
    rw [← hb] at g1 g2
    obtain ⟨pa0, pa1, pa⟩ := put_ok (rd m a) b (hm.2 a g0 (by omega)).1 (hm.2 a g0 (by omega)).2 (by omega) (by omega)
    obtain ⟨pb0, pb1, pb⟩ := put_ok (rd m b) a (hm.2 b (by omega) g2).1 (hm.2 b (by omega) g2).2 g0 (by omega)
    obtain ⟨m1, hm1⟩ : ∃ m1, m1 = m.set a.toNat (put (rd m a) b) := ⟨_, rfl⟩
    obtain ⟨m2, hm2⟩ : ∃ m2, m2 = m1.set b.toNat (put (rd m1 b) a) := ⟨_, rfl⟩
    have l1 : m1.length = m.length := by rw [hm1, List.length_set]
    have l2 : m2.length = m.length := by rw [hm2, List.length_set, l1]
    have r1 : ∀ u : Int, 0 ≤ u → rd m1 u = if a = u then put (rd m a) b else rd m u := fun u hu => by rw [hm1]; exact rd_set m a u _ g0 (by omega) hu
    have r1b : rd m1 b = rd m b := by rw [r1 b (by omega), if_neg (by omega)]
    have r2 : ∀ u : Int, 0 ≤ u → rd m2 u = if b = u then put (rd m b) a else if a = u then put (rd m a) b else rd m u := fun u hu => by
      rw [hm2, rd_set m1 b u _ (by omega) (by omega) hu, r1b]
      by_cases h : b = u
      · rw [if_pos h, if_pos h]
      · rw [if_neg h, if_neg h, r1 u hu]
    have hm' : Masks s m2 := by
      refine ⟨by rw [l2]; exact hm.1, fun u hu0 hu1 => ?_⟩
      rw [r2 u hu0]
      by_cases h : b = u
      · rw [if_pos h]; exact ⟨pb0, pb1⟩
      · rw [if_neg h]
        by_cases h' : a = u
        · rw [if_pos h']; exact ⟨pa0, pa1⟩
        · rw [if_neg h']; exact hm.2 u hu0 hu1
    obtain ⟨r, hr, hbit, hev⟩ := ih (i + 1) m2 (by omega) (by omega) hm'
    refine ⟨r, hr, fun u v hu0 hu1 hv0 hv1 => ?_, Ev.step (fun k => ?_) hev⟩
    · rw [hbit u v hu0 hu1 hv0 hv1, r2 u hu0]
      conv => rhs; unfold nearF
      rw [← ha, ← hb]
      by_cases h : b = u
      · subst h
        rw [if_pos rfl, pb v hv0 hv1]
        have e1 : (a == b) = false := by simp; omega
        have e2 : (v == a) = (a == v) := by rw [Bool.eq_iff_iff]; simp; omega
        have e3 : (b == b) = true := by simp
        rw [e1, e2, e3]
        cases bit (rd m b) v <;> cases (a == v) <;> simp
      · rw [if_neg h]
        have e0 : (b == u) = false := by simpa using h
        by_cases h' : a = u
        · subst h'
          rw [if_pos rfl, pa v hv0 hv1]
          have e2 : (v == b) = (b == v) := by rw [Bool.eq_iff_iff]; simp; omega
          have e3 : (a == a) = true := by simp
          rw [e0, e2, e3]
          cases bit (rd m a) v <;> cases (b == v) <;> simp
        · rw [if_neg h']
          have e1 : (a == u) = false := by simpa using h'
          rw [e0, e1]
          simp
    · simp only [impl_netOf.l0, Option.bind_some]
      rw [← ha, ← hb]
      rw [if_pos (by omega), if_pos hi, if_pos (by omega), if_pos g0, if_pos (by omega), if_pos (by omega), if_pos (by omega), hw]
      show impl_netOf.l0 k l l.length (i + 1) ((m.set a.toNat (put (rd m a) b)).set b.toNat (put (rd (m.set a.toNat (put (rd m a) b)) b) a)) = _
      rw [← hm1, ← hm2]

theorem net_ev (s : Int) (l : List S59) (hl : l.length ≤ 1048576) (hg : Good s l) : ∃ r, Masks s r ∧ (∀ u v : Int, 0 ≤ u → u < s → 0 ≤ v → v < 8 → bit (rd r u) v = near l u v) ∧ Ev (fun k => impl_netOf.f k s l) r := by
  have hg' := hg
  obtain ⟨h0, h8, _⟩ := hg'
  have hz : Masks s (List.replicate s.toNat 0) := by
    refine ⟨by simp; omega, fun u hu0 hu1 => ?_⟩
    have : rd (List.replicate s.toNat 0) u = 0 := by
      unfold rd
      rw [List.getD_eq_getElem?_getD, List.getElem?_replicate, if_pos (by omega)]
      rfl
    rw [this]
    omega
  obtain ⟨r, hr, hb, K, hK⟩ := net_loop s l hl hg l.length 0 _ (by omega) (by omega) hz
  dsimp only at hK
  refine ⟨r, hr, fun u v hu0 hu1 hv0 hv1 => ?_, K, fun k hk => ?_⟩
  · rw [hb u v hu0 hu1 hv0 hv1]
    have : rd (List.replicate s.toNat 0) u = 0 := by
      unfold rd
      rw [List.getD_eq_getElem?_getD, List.getElem?_replicate, if_pos (by omega)]
      rfl
    rw [this, bit_zero v hv0 hv1, Bool.false_or]
    rfl
  · dsimp only
    unfold impl_netOf.f
    rw [if_pos h0, if_pos (by omega)]
    exact hK k hk

theorem near_out_loop (s : Int) (l : List S59) (hg : Good s l) (u v : Int) (hv : s ≤ v) : ∀ (d : Nat) (i : Int), 0 ≤ i → (l.length : Int) - i = d → nearF l u v d i = false := by
  intro d
  induction d with
  | zero => intro i _ _; rfl
  | succ d ih =>
    intro i hi hd
    obtain ⟨g0, g1, g2⟩ := hg.2.2 i hi (by omega)
    unfold nearF
    rw [ih (i + 1) (by omega) (by omega)]
    have e1 : ((rd_T59 l i).f1 == v) = false := by simp; omega
    have e2 : ((rd_T59 l i).f0 == v) = false := by simp; omega
    rw [e1, e2]
    simp
theorem near_out (s : Int) (l : List S59) (hg : Good s l) (u v : Int) (hv : s ≤ v) : near l u v = false := near_out_loop s l hg u v hv l.length 0 (by omega) (by omega)

end Go.Proofs.Ytooboeahekdibaa.Gr
