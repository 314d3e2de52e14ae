/- Sets of nodes as masks: their bits, and what and, or, and-not, shifts do to them; no conditions beyond those that each theorem names. -/
import Derived.Test.YtooboeahekdibaaGrN
import Derived.Test.YtooboeahekdibaaGrL
import Derived.Test.YtooboeahekdibaaPxNetA
import Derived.KernelRfl
import Derived.Laws.BitsLemmas
namespace Go.Proofs.Ytooboeahekdibaa.Gr
open Go.RowKit Go.Proofs.Ytooboeahekdibaa.P Go.Proofs.YtooboeahekdibaaW.PrintWords Go.Proofs.YtooboeahekdibaaW.PrintLast Go.Proofs.YtooboeahekdibaaW.PrintMore

theorem wrap_small (n : Int) (h0 : 0 ≤ n) (h1 : n < 2 ^ 62) : IntKind.i64.wrap n = n := by
  exact (i64_w n).trans (w64 n (by omega) (by omega))
theorem bits_n (a b : Nat) (ha : a < 2 ^ 62) (hb : b < 2 ^ 62) : Go.bits .and .i64 a b = ((a &&& b : Nat) : Int) ∧ Go.bits .or .i64 a b = ((a ||| b : Nat) : Int) :=
  Go.bits_nat .i64 62 (by decide) (fun n h0 h1 => wrap_small n h0 (by exact_mod_cast h1)) a b ha hb
theorem bits_xor (a b : Nat) (ha : a < 2 ^ 62) (hb : b < 2 ^ 62) : Go.bits .xor .i64 a b = ((a ^^^ b : Nat) : Int) := by
  have hp : (2 : Nat) ^ 62 ≤ 2 ^ IntKind.i64.bits := Nat.pow_le_pow_right (by decide) (by decide)
  have ha' : a % 2 ^ IntKind.i64.bits = a := Nat.mod_eq_of_lt (Nat.lt_of_lt_of_le ha hp)
  have hb' : b % 2 ^ IntKind.i64.bits = b := Nat.mod_eq_of_lt (Nat.lt_of_lt_of_le hb hp)
  simp only [Go.bits, BitVec.ofInt_natCast, BitVec.toNat_xor, BitVec.toNat_ofNat, ha', hb']
  exact wrap_small _ (by omega) (by exact_mod_cast Nat.xor_lt_two_pow ha hb)
theorem bits_not (a b : Nat) (ha : a < 2 ^ 62) (hb : b < 2 ^ 62) : ∃ c : Nat, Go.bits .andNot .i64 a b = (c : Int) ∧ c ≤ a ∧ ∀ j, c.testBit j = (a.testBit j && !b.testBit j) := by
  have hp : (2 : Nat) ^ 62 ≤ 2 ^ IntKind.i64.bits := Nat.pow_le_pow_right (by decide) (by decide)
  have ha' : a % 2 ^ IntKind.i64.bits = a := Nat.mod_eq_of_lt (Nat.lt_of_lt_of_le ha hp)
  have hb' : b % 2 ^ IntKind.i64.bits = b := Nat.mod_eq_of_lt (Nat.lt_of_lt_of_le hb hp)
  refine ⟨(BitVec.ofNat IntKind.i64.bits a &&& ~~~BitVec.ofNat IntKind.i64.bits b).toNat, ?_, ?_, fun j => ?_⟩
  · simp only [Go.bits, BitVec.ofInt_natCast]
    refine wrap_small _ (by omega) ?_
    have : (BitVec.ofNat IntKind.i64.bits a &&& ~~~BitVec.ofNat IntKind.i64.bits b).toNat ≤ a := by
      rw [BitVec.toNat_and, BitVec.toNat_ofNat, ha']
      exact Nat.and_le_left
    exact_mod_cast Nat.lt_of_le_of_lt this ha
  · rw [BitVec.toNat_and, BitVec.toNat_ofNat, ha']
    exact Nat.and_le_left
  · rw [BitVec.testBit_toNat, BitVec.getLsbD_and, BitVec.getLsbD_not, BitVec.getLsbD_ofNat, BitVec.getLsbD_ofNat]
    by_cases hj : j < IntKind.i64.bits
    · simp [hj]
    · have h1 : a.testBit j = false := Nat.testBit_lt_two_pow (Nat.lt_of_lt_of_le ha (Nat.le_trans hp (Nat.pow_le_pow_right (by decide) (by omega))))
      simp [h1, hj]

theorem bit_tb (m v : Nat) (hm : m < 2 ^ 62) (hv : v ≤ 64) : bit m v = m.testBit v := by
  unfold bit shr
  rw [show IntKind.i64.bits = 64 from rfl, Int.toNat_natCast, Nat.min_eq_left hv]
  have e : (m : Int) / 2 ^ v = ((m / 2 ^ v : Nat) : Int) := by norm_cast
  rw [e]
  have := (bits_n (m / 2 ^ v) 1 (Nat.lt_of_le_of_lt (Nat.div_le_self _ _) hm) (by decide)).1
  rw [show ((1 : Nat) : Int) = 1 from rfl] at this
  rw [this, Nat.and_one_is_mod, Nat.testBit_eq_decide_div_mod_eq]
  rw [Bool.eq_iff_iff, beq_iff_eq, decide_eq_true_eq]
  omega
theorem bit_i (m v : Int) (h0 : 0 ≤ m) (hm : m < 256) (v0 : 0 ≤ v) (hv : v < 64) : bit m v = m.toNat.testBit v.toNat := by
  have := bit_tb m.toNat v.toNat (by omega) (by omega)
  rwa [Int.toNat_of_nonneg h0, Int.toNat_of_nonneg v0] at this

/-- A mask of eight bits. -/
abbrev M8 (m : Int) : Prop := 0 ≤ m ∧ m < 256
theorem bit_hi (m v : Int) (h : M8 m) (v0 : 8 ≤ v) (hv : v < 64) : bit m v = false := by
  rw [bit_i m v h.1 h.2 (by omega) hv]
  refine Nat.testBit_lt_two_pow (Nat.lt_of_lt_of_le (show m.toNat < 2 ^ 8 by omega) (Nat.pow_le_pow_right (by decide) (by omega)))
theorem and_ok (a b : Int) (ha : M8 a) (hb : M8 b) : M8 (Go.bits .and .i64 a b) ∧ ∀ v : Int, 0 ≤ v → v < 64 → bit (Go.bits .and .i64 a b) v = (bit a v && bit b v) := by
  have e := (bits_n a.toNat b.toNat (by omega) (by omega)).1
  rw [Int.toNat_of_nonneg ha.1, Int.toNat_of_nonneg hb.1] at e
  have hM : M8 (Go.bits .and .i64 a b) := by
    rw [e]
    have := @Nat.and_le_left a.toNat b.toNat
    constructor <;> omega
  refine ⟨hM, fun v v0 v1 => ?_⟩
  rw [bit_i _ v hM.1 hM.2 v0 v1, bit_i a v ha.1 ha.2 v0 v1, bit_i b v hb.1 hb.2 v0 v1, e, Int.toNat_natCast, Nat.testBit_and]
theorem or_ok (a b : Int) (ha : M8 a) (hb : M8 b) : M8 (Go.bits .or .i64 a b) ∧ ∀ v : Int, 0 ≤ v → v < 64 → bit (Go.bits .or .i64 a b) v = (bit a v || bit b v) := by
  have e := (bits_n a.toNat b.toNat (by omega) (by omega)).2
  rw [Int.toNat_of_nonneg ha.1, Int.toNat_of_nonneg hb.1] at e
  have hM : M8 (Go.bits .or .i64 a b) := by
    rw [e]
    have : a.toNat ||| b.toNat < 2 ^ 8 := Nat.or_lt_two_pow (by omega) (by omega)
    constructor <;> omega
  refine ⟨hM, fun v v0 v1 => ?_⟩
  rw [bit_i _ v hM.1 hM.2 v0 v1, bit_i a v ha.1 ha.2 v0 v1, bit_i b v hb.1 hb.2 v0 v1, e, Int.toNat_natCast, Nat.testBit_or]
theorem xor_ok (a b : Int) (ha : M8 a) (hb : M8 b) : M8 (Go.bits .xor .i64 a b) ∧ ∀ v : Int, 0 ≤ v → v < 64 → bit (Go.bits .xor .i64 a b) v = (bit a v ^^ bit b v) := by
  have e := bits_xor a.toNat b.toNat (by omega) (by omega)
  rw [Int.toNat_of_nonneg ha.1, Int.toNat_of_nonneg hb.1] at e
  have hM : M8 (Go.bits .xor .i64 a b) := by
    rw [e]
    have : a.toNat ^^^ b.toNat < 2 ^ 8 := Nat.xor_lt_two_pow (by omega) (by omega)
    constructor <;> omega
  refine ⟨hM, fun v v0 v1 => ?_⟩
  rw [bit_i _ v hM.1 hM.2 v0 v1, bit_i a v ha.1 ha.2 v0 v1, bit_i b v hb.1 hb.2 v0 v1, e, Int.toNat_natCast, Nat.testBit_xor]
theorem not_ok (a b : Int) (ha : M8 a) (hb : M8 b) : M8 (Go.bits .andNot .i64 a b) ∧ ∀ v : Int, 0 ≤ v → v < 64 → bit (Go.bits .andNot .i64 a b) v = (bit a v && !bit b v) := by
  obtain ⟨c, e, hc, ht⟩ := bits_not a.toNat b.toNat (by omega) (by omega)
  rw [Int.toNat_of_nonneg ha.1, Int.toNat_of_nonneg hb.1] at e
  have hM : M8 (Go.bits .andNot .i64 a b) := by
    rw [e]
    constructor <;> omega
  refine ⟨hM, fun v v0 v1 => ?_⟩
  rw [bit_i _ v hM.1 hM.2 v0 v1, bit_i a v ha.1 ha.2 v0 v1, bit_i b v hb.1 hb.2 v0 v1, e, Int.toNat_natCast, ht]
theorem mask_ext (a b : Int) (ha : M8 a) (hb : M8 b) (h : ∀ v : Int, 0 ≤ v → v < 8 → bit a v = bit b v) : a = b := by
  have : a.toNat = b.toNat := by
    refine Nat.eq_of_testBit_eq (fun j => ?_)
    by_cases hj : j < 8
    · have := h j (by omega) (by omega)
      rw [bit_i a j ha.1 ha.2 (by omega) (by omega), bit_i b j hb.1 hb.2 (by omega) (by omega), Int.toNat_natCast] at this
      exact this
    · rw [Nat.testBit_lt_two_pow (Nat.lt_of_lt_of_le (show a.toNat < 2 ^ 8 by omega) (Nat.pow_le_pow_right (by decide) (by omega))), Nat.testBit_lt_two_pow (Nat.lt_of_lt_of_le (show b.toNat < 2 ^ 8 by omega) (Nat.pow_le_pow_right (by decide) (by omega)))]
  omega
theorem one_all : ((List.range 8).all fun v => (decide (0 ≤ shl .i64 1 v) && decide (shl .i64 1 v < 256)) && (List.range 64).all fun u => bit (shl .i64 1 v) u == (u == v)) = true := by kernel_rfl
theorem one_ok (v : Int) (h0 : 0 ≤ v) (h1 : v < 8) : M8 (shl .i64 1 v) ∧ ∀ u : Int, 0 ≤ u → u < 64 → bit (shl .i64 1 v) u = (u == v) := by
  have h := List.all_eq_true.1 one_all v.toNat (List.mem_range.2 (by omega))
  rw [Int.toNat_of_nonneg h0, Bool.and_eq_true, Bool.and_eq_true, decide_eq_true_eq, decide_eq_true_eq] at h
  refine ⟨h.1, fun u u0 u1 => ?_⟩
  have h' := List.all_eq_true.1 h.2 u.toNat (List.mem_range.2 (by omega))
  rw [Int.toNat_of_nonneg u0, beq_iff_eq] at h'
  rw [h', Bool.eq_iff_iff, beq_iff_eq, beq_iff_eq]
  omega
theorem full_all : ((List.range 9).all fun n => (decide (0 ≤ wrap64 (shl .i64 1 n - 1)) && decide (wrap64 (shl .i64 1 n - 1) < 256)) && (List.range 64).all fun u => bit (wrap64 (shl .i64 1 n - 1)) u == decide (u < n)) = true := by kernel_rfl
theorem full_ok (n : Int) (h0 : 0 ≤ n) (h1 : n ≤ 8) : M8 (wrap64 (shl .i64 1 n - 1)) ∧ ∀ u : Int, 0 ≤ u → u < 64 → bit (wrap64 (shl .i64 1 n - 1)) u = decide (u < n) := by
  have h := List.all_eq_true.1 full_all n.toNat (List.mem_range.2 (by omega))
  rw [Int.toNat_of_nonneg h0, Bool.and_eq_true, Bool.and_eq_true, decide_eq_true_eq, decide_eq_true_eq] at h
  refine ⟨h.1, fun u u0 u1 => ?_⟩
  have h' := List.all_eq_true.1 h.2 u.toNat (List.mem_range.2 (by omega))
  rw [Int.toNat_of_nonneg u0, beq_iff_eq] at h'
  rw [h', decide_eq_decide]
  omega
theorem zero_ok : M8 0 ∧ ∀ v : Int, 0 ≤ v → v < 64 → bit 0 v = false := by
  refine ⟨by decide, fun v h0 h1 => ?_⟩
  rw [bit_i 0 v (by omega) (by omega) h0 h1]
  exact Nat.zero_testBit _

theorem set8_all : ((List.range 256).all fun m => impl_setOf.f 20 m == some ((V 8).filter (bit m))) = true := by kernel_rfl
/-- The nodes of a mask, in order. -/
theorem set8_ev (m : Int) (h : M8 m) : Ev (fun k => impl_setOf.f k m) ((V 8).filter (bit m)) := by
  have h' := List.all_eq_true.1 set8_all m.toNat (List.mem_range.2 (by omega))
  rw [Int.toNat_of_nonneg h.1, beq_iff_eq] at h'
  exact Ev.of (fun k => impl_setOf.mono m k) h'
theorem setP_ev (m : Int) (h : M8 m) (s : Int) (h8 : s ≤ 8) (p : Int → Bool) (hp : ∀ v : Int, 0 ≤ v → v < 8 → bit m v = (decide (v < s) && p v)) : Ev (fun k => impl_setOf.f k m) ((V s).filter p) := by
  have e : (V 8).filter (bit m) = (V s).filter p := by
    refine up_ext (filter_up (V_up _) _) (filter_up (V_up _) _) (fun x => ?_)
    rw [mem_VF, mem_VF]
    constructor
    · rintro ⟨⟨h0, h1⟩, h2⟩
      rw [hp x h0 h1, Bool.and_eq_true, decide_eq_true_eq] at h2
      exact ⟨⟨h0, h2.1⟩, h2.2⟩
    · rintro ⟨⟨h0, h1⟩, h2⟩
      exact ⟨⟨h0, by omega⟩, by rw [hp x h0 (by omega), h2, decide_eq_true h1]; rfl⟩
  rw [← e]
  exact set8_ev m h
end Go.Proofs.Ytooboeahekdibaa.Gr
