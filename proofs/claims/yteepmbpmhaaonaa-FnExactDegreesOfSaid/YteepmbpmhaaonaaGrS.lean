/- The nodes of a mask, in order; no conditions beyond those that each theorem names. -/
import Derived.Test.YteepmbpmhaaonaaGrM
import Derived.Test.YteepmbpmhaaonaaPx16
import Derived.Test.YteepmbpmhaaonaaPx29
import Derived.KernelRfl
namespace Go.Proofs.Yteepmbpmhaaonaa.Gr
open Go.RowKit Go.Proofs.Yteepmbpmhaaonaa.P Go.Proofs.YteepmbpmhaaonaaW.PrintWords Go.Proofs.YteepmbpmhaaonaaW.PrintLast Go.Proofs.YteepmbpmhaaonaaW.PrintMore

/-- The x from x on, d of them, for which h says yes. -/
def nbF (h : Int → Bool) : Nat → Int → List Int
  | 0, _ => []
  | d + 1, x => (if h x = true then [x] else []) ++ nbF h d (x + 1)

theorem nbF_len (h : Int → Bool) : ∀ d x, (nbF h d x).length ≤ d
  | 0, _ => Nat.le_refl _
  | d + 1, x => by
    have := nbF_len h d (x + 1)
    unfold nbF
    rw [List.length_append]
    split <;> simp <;> omega
theorem nbF_congr (h h' : Int → Bool) : ∀ (d : Nat) (x : Int), (∀ z : Int, x ≤ z → z < x + (d : Int) → h z = h' z) → nbF h d x = nbF h' d x
  | 0, _, _ => rfl
  | d + 1, x, e => by
    unfold nbF
    rw [e x (by omega) (by omega), nbF_congr h h' d (x + 1) (fun z h1 h2 => e z (by omega) (by omega))]
theorem nbF_none (h : Int → Bool) : ∀ (d : Nat) (x : Int), (∀ z : Int, x ≤ z → h z = false) → nbF h d x = []
  | 0, _, _ => rfl
  | d + 1, x, e => by
    unfold nbF
    rw [e x (by omega), nbF_none h d (x + 1) (fun z h1 => e z (by omega))]
    rfl
theorem nbF_cut (h : Int → Bool) : ∀ (d e : Nat) (x : Int), (∀ z : Int, x + (d : Int) ≤ z → h z = false) → nbF h (d + e) x = nbF h d x
  | 0, e, x, hz => by rw [Nat.zero_add, nbF_none h e x (fun z h1 => hz z (by omega))]; rfl
  | d + 1, e, x, hz => by
    rw [show d + 1 + e = (d + e) + 1 by omega]
    unfold nbF
    rw [nbF_cut h d e (x + 1) (fun z h1 => hz z (by omega))]

theorem set_all : ((List.range 256).all fun m => impl_setOf.f 20 m == some (nbF (bit m) 8 0)) = true := by kernel_rfl

theorem set_ev (m : Int) (h0 : 0 ≤ m) (h1 : m < 256) : Ev (fun k => impl_setOf.f k m) (nbF (bit m) 8 0) := by
  have h := List.all_eq_true.1 set_all m.toNat (List.mem_range.2 (by omega))
  rw [Int.toNat_of_nonneg h0, beq_iff_eq] at h
  exact Ev.of (fun k => impl_setOf.mono m k) h

/-- The set of a node's mask: its neighbours. -/
theorem nbs_ev (s : Int) (l : List S65) (hg : Good s l) (r : List Int) (hm : Masks s r) (hb : ∀ u v : Int, 0 ≤ u → u < s → 0 ≤ v → v < 8 → bit (rd r u) v = near l u v) (u : Int) (hu0 : 0 ≤ u) (hu1 : u < s) :
    Ev (fun k => impl_setOf.f k (rd r u)) (nbF (near l u) s.toNat 0) := by
  have h := set_ev (rd r u) (hm.2 u hu0 hu1).1 (hm.2 u hu0 hu1).2
  have e1 : nbF (bit (rd r u)) 8 0 = nbF (near l u) 8 0 := nbF_congr _ _ 8 0 (fun z h1 h2 => hb u z hu0 hu1 h1 (by omega))
  have h8 := hg.2.1
  have h0 := hg.1
  have e2 : nbF (near l u) 8 0 = nbF (near l u) s.toNat 0 := by
    have := nbF_cut (near l u) s.toNat (8 - s.toNat) 0 (fun z h1 => near_out s l hg u z (by omega))
    rw [← this]
    congr 1
    omega
  rw [e1, e2] at h
  exact h

theorem nbs_spec (s : Int) (l : List S65) (hl : l.length ≤ 1048576) (hn : s ≤ 1000) (u : Int) : ∀ (d : Nat) (x : Int) (es : List Int), 0 ≤ x → s - x = d → (es.length : Int) ≤ x → Ev (fun k => spec_l2Neighbors.l0 k u es x s l) (es ++ nbF (near l u) d x) := by
  intro d
  induction d with
  | zero =>
    intro x es hx hd hes
    rw [show nbF (near l u) 0 x = [] from rfl, List.append_nil]
    refine Ev.step (f := fun _ => some es) (fun k => ?_) (Ev.now _)
    simp only [spec_l2Neighbors.l0]
    rw [if_neg (by omega)]
  | succ d ih =>
    intro x es hx hd hes
    have hw : wrap64 (x + 1) = x + 1 := by unfold wrap64; omega
    have hne := near_ev s l u x hl
    by_cases hc : near l u x = true
    · have hr := ih (x + 1) (es ++ [x]) (by omega) (by omega) (by rw [List.length_append, List.length_singleton]; omega)
      have e : es ++ nbF (near l u) (d + 1) x = es ++ [x] ++ nbF (near l u) d (x + 1) := by
        conv => lhs; unfold nbF
        rw [if_pos hc]
        simp
      rw [e]
      refine Ev.step (f := fun k => (spec_l2Near.f k s l u x).bind fun t => if t = true then if es.length < 17592186044416 then spec_l2Neighbors.l0 k u (es ++ [x]) (x + 1) s l else none else spec_l2Neighbors.l0 k u es (x + 1) s l) (fun k => ?_) (Ev.bind hne ?_)
      · simp only [spec_l2Neighbors.l0]
        rw [if_pos (by omega), hw]
      · refine Ev.congr (fun k => ?_) hr
        rw [if_pos hc, if_pos (by omega)]
    · have hr := ih (x + 1) es (by omega) (by omega) (by omega)
      have e : es ++ nbF (near l u) (d + 1) x = es ++ nbF (near l u) d (x + 1) := by
        conv => lhs; unfold nbF
        rw [if_neg hc]
        simp
      rw [e]
      refine Ev.step (f := fun k => (spec_l2Near.f k s l u x).bind fun t => if t = true then if es.length < 17592186044416 then spec_l2Neighbors.l0 k u (es ++ [x]) (x + 1) s l else none else spec_l2Neighbors.l0 k u es (x + 1) s l) (fun k => ?_) (Ev.bind hne ?_)
      · simp only [spec_l2Neighbors.l0]
        rw [if_pos (by omega), hw]
      · refine Ev.congr (fun k => ?_) hr
        rw [if_neg hc]

end Go.Proofs.Yteepmbpmhaaonaa.Gr
