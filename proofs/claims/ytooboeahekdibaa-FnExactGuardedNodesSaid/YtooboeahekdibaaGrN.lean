/- Who is near whom, by the list and by the masks; no conditions beyond those that each theorem names. -/
import Derived.Test.YtooboeahekdibaaGrG
import Derived.Test.YtooboeahekdibaaPxSpecL2Near
import Derived.KernelRfl
namespace Go.Proofs.Ytooboeahekdibaa.Gr
open Go.RowKit Go.Proofs.Ytooboeahekdibaa.P Go.Proofs.YtooboeahekdibaaW.PrintWords Go.Proofs.YtooboeahekdibaaW.PrintLast Go.Proofs.YtooboeahekdibaaW.PrintMore

/-- Is the edge u, v among the first d pairs from i on? -/
def nearF (l : List S59) (u v : Int) : Nat → Int → Bool
  | 0, _ => false
  | d + 1, i => ((rd_T59 l i).f0 == u && (rd_T59 l i).f1 == v) || ((rd_T59 l i).f0 == v && (rd_T59 l i).f1 == u) || nearF l u v d (i + 1)
def near (l : List S59) (u v : Int) : Bool := nearF l u v l.length 0

theorem near_loop (s : Int) (l : List S59) (u v : Int) (hl : l.length ≤ 1048576) : ∀ (d : Nat) (i : Int), 0 ≤ i → (l.length : Int) - i = d → Ev (fun k => spec_l2Near.l0 k u v i s l) (nearF l u v d i) := by
  intro d
  induction d with
  | zero =>
    intro i hi hd
    refine Ev.step (f := fun _ => some false) (fun k => ?_) (Ev.now false)
    simp only [spec_l2Near.l0]
    rw [if_neg (by omega)]
  | succ d ih =>
    intro i hi hd
    have hp : i < (l.length : Int) := by omega
    have hw : wrap64 (i + 1) = i + 1 := by unfold wrap64; omega
    have hr := ih (i + 1) (by omega) (by omega)
    by_cases hc : ((rd_T59 l i).f0 = u ∧ (rd_T59 l i).f1 = v) ∨ ((rd_T59 l i).f0 = v ∧ (rd_T59 l i).f1 = u)
    · have e : nearF l u v (d + 1) i = true := by
        unfold nearF
        rcases hc with ⟨h1, h2⟩ | ⟨h1, h2⟩ <;> simp [h1, h2]
      rw [e]
      refine Ev.step (f := fun _ => some true) (fun k => ?_) (Ev.now true)
      simp only [spec_l2Near.l0, if_pos hp, if_pos hi]
      repeat' split
      all_goals first | rfl | (exfalso; omega)
    · have e : nearF l u v (d + 1) i = nearF l u v d (i + 1) := by
        have h1 : ((rd_T59 l i).f0 == u && (rd_T59 l i).f1 == v) = false := by
          rw [Bool.and_eq_false_iff]
          by_cases h : (rd_T59 l i).f0 = u
          · right
            simp only [beq_eq_false_iff_ne]
            intro h'
            exact hc (.inl ⟨h, h'⟩)
          · left
            simpa using h
        have h2 : ((rd_T59 l i).f0 == v && (rd_T59 l i).f1 == u) = false := by
          rw [Bool.and_eq_false_iff]
          by_cases h : (rd_T59 l i).f0 = v
          · right
            simp only [beq_eq_false_iff_ne]
            intro h'
            exact hc (.inr ⟨h, h'⟩)
          · left
            simpa using h
        conv => lhs; unfold nearF
        rw [h1, h2]
        rfl
      rw [e]
      refine Ev.step (fun k => ?_) hr
      simp only [spec_l2Near.l0, if_pos hp, if_pos hi, hw]
      repeat' split
      all_goals first | rfl | (exfalso; omega)

theorem near_ev (s : Int) (l : List S59) (u v : Int) (hl : l.length ≤ 1048576) : Ev (fun k => spec_l2Near.f k s l u v) (near l u v) := by
  obtain ⟨K, hK⟩ := near_loop s l u v hl l.length 0 (by omega) (by omega)
  dsimp only at hK
  exact ⟨K, fun k hk => by dsimp only; unfold spec_l2Near.f; exact hK k hk⟩
/-- A node's bit in a mask. -/
def bit (m v : Int) : Bool := Go.bits .and .i64 (shr .i64 m v) 1 == 1
def put (m v : Int) : Int := Go.bits .or .i64 m (shl .i64 1 v)

theorem put_all : ((List.range 256).all fun m => (List.range 8).all fun w => (decide (0 ≤ put m w) && decide (put m w < 256)) && (List.range 8).all fun v => bit (put m w) v == (bit m v || v == w)) = true := by kernel_rfl
theorem zero_all : ((List.range 8).all fun v => bit 0 v == false) = true := by kernel_rfl

theorem put_ok (m w : Int) (h0 : 0 ≤ m) (h1 : m < 256) (h2 : 0 ≤ w) (h3 : w < 8) : 0 ≤ put m w ∧ put m w < 256 ∧ ∀ v : Int, 0 ≤ v → v < 8 → bit (put m w) v = (bit m v || v == w) := by
  have h := List.all_eq_true.1 put_all m.toNat (List.mem_range.2 (by omega))
  have h' := List.all_eq_true.1 h w.toNat (List.mem_range.2 (by omega))
  rw [Int.toNat_of_nonneg h0, Int.toNat_of_nonneg h2, Bool.and_eq_true, Bool.and_eq_true, decide_eq_true_eq, decide_eq_true_eq] at h'
  refine ⟨h'.1.1, h'.1.2, fun v hv0 hv1 => ?_⟩
  have h'' := List.all_eq_true.1 h'.2 v.toNat (List.mem_range.2 (by omega))
  rw [Int.toNat_of_nonneg hv0, beq_iff_eq] at h''
  rw [h'']
  congr 1
  rw [Bool.eq_iff_iff, beq_iff_eq, beq_iff_eq]
  omega
theorem bit_zero (v : Int) (h0 : 0 ≤ v) (h1 : v < 8) : bit 0 v = false := by
  have h := List.all_eq_true.1 zero_all v.toNat (List.mem_range.2 (by omega))
  rw [Int.toNat_of_nonneg h0, beq_iff_eq] at h
  exact h

end Go.Proofs.Ytooboeahekdibaa.Gr
