/- Checksum of the program and of the reference run the same loop over the bytes, which ends behind the last byte; no conditions beyond the size that the row bears. -/
import Derived.Test.YtooeemiljeeoaaaPFnExactChecksumx1
namespace Go.Proofs.Ytooeemiljeeoaaa.Pure
open Go.RowKit Go.Proofs.Ytooeemiljeeoaaa.PFnExactChecksum Go.Proofs.YtooeemiljeeoaaaW.PrintWords Go.Proofs.YtooeemiljeeoaaaW.PrintLast

theorem sums_same : ∀ (k : Nat) (s : ByteArray) (h i : Int), spec_l1Sum.l0 k s h i = impl_checksum.l0 k s h i
  | 0, _, _, _ => rfl
  | k + 1, s, h, i => by
    simp only [spec_l1Sum.l0, impl_checksum.l0, sums_same k]

theorem sum_ends (s : ByteArray) (hs : s.size ≤ 4000) (d : Nat) : ∀ (k : Nat) (h i : Int), 0 ≤ i → i ≤ s.size → (s.size : Int) - i = d → d < k →
    ∃ r, impl_checksum.l0 k s h i = some r := by
  induction d with
  | zero =>
    intro k h i h0 h1 hd hk
    obtain ⟨k, rfl⟩ : ∃ m, k = m + 1 := ⟨k - 1, by omega⟩
    exact ⟨h, by simp only [impl_checksum.l0]; rw [if_neg (by omega)]⟩
  | succ d ih =>
    intro k h i h0 h1 hd hk
    obtain ⟨k, rfl⟩ : ∃ m, k = m + 1 := ⟨k - 1, by omega⟩
    have hw : wrap64 (i + 1) = i + 1 := by unfold wrap64; omega
    obtain ⟨r, hr⟩ := ih k (Int.tmod (wrap64 ((wrap64 ((wrap64 (41 * h)) + (wrap64 (bt s i)))) + 1)) 999979) (i + 1) (by omega) (by omega) (by omega) (by omega)
    refine ⟨r, ?_⟩
    simp only [impl_checksum.l0]
    rw [if_pos (by omega), if_pos h0, hw]
    exact hr

theorem FnExactChecksum : laws_FnExactChecksum.Pure := by
  intro s _
  by_cases h0 : (s.size : Int) > 1048576
  · exact ⟨0, by unfold laws_FnExactChecksum.f; rw [if_pos h0]⟩
  by_cases h1 : (s.size : Int) > 4000
  · refine ⟨0, ?_⟩
    unfold laws_FnExactChecksum.f spec_Checksum.f impl_Checksum.f
    rw [if_neg h0, if_pos h1, if_pos h1]
    simp
  · obtain ⟨r, hr⟩ := sum_ends s (by omega) s.size (s.size + 1) 7 0 (by omega) (by omega) (by omega) (by omega)
    refine ⟨s.size + 1, ?_⟩
    unfold laws_FnExactChecksum.f spec_Checksum.f impl_Checksum.f
    rw [if_neg h0, if_neg h1, if_neg h1]
    unfold spec_l1Sum.f impl_checksum.f
    rw [sums_same, hr]
    simp

end Go.Proofs.Ytooeemiljeeoaaa.Pure
