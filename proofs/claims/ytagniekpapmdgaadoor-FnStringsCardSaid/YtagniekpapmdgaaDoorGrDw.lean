/- What is drawn out of a code: numbers within their bounds, and things out of a list; no conditions beyond those that each theorem names. -/
import Derived.Test.YtagniekpapmdgaaDoorGrC
import Derived.Test.YtagniekpapmdgaaDoorPxSpecL1CurNext
import Derived.Test.YtagniekpapmdgaaDoorPxSpecL1CurOne
import Derived.Test.YtagniekpapmdgaaDoorPxSpecL1CurPick
namespace Go.Proofs.YtagniekpapmdgaaDoor.Gr
open Go.RowKit Go.Proofs.YtagniekpapmdgaaDoor.P Go.Proofs.YtagniekpapmdgaaDoorW.PrintWords Go.Proofs.YtagniekpapmdgaaDoorW.PrintLast Go.Proofs.YtagniekpapmdgaaDoorW.PrintMore

/-- A code: bytes, not too many. -/
def Code8 (C : List Int) : Prop := C.length ≤ 65536 ∧ ∀ x ∈ C, 0 ≤ x ∧ x ≤ 255
theorem code_of {C : List Int} (hl : C.length ≤ 65536) (h : ∀ x ∈ C, (Lit.int .u8 x).wf = true) : Code8 C := ⟨hl, fun x hx => by
  have h2 := h x hx
  simp only [Lit.wf, Bool.and_eq_true, decide_eq_true_eq] at h2
  exact ⟨h2.1, h2.2⟩⟩
theorem rd8 {C : List Int} (hC : Code8 C) (a : Int) : 0 ≤ rd C a ∧ rd C a ≤ 255 := by
  unfold rd
  rw [List.getD_eq_getElem?_getD]
  cases h : C[a.toNat]? with
  | none => exact ⟨by decide, by decide⟩
  | some x => exact hC.2 x (List.mem_of_getElem? h)
theorem and255 (x : Int) : 0 ≤ Go.bits .and .u64 x 255 ∧ Go.bits .and .u64 x 255 ≤ 255 := by
  have h : (BitVec.ofInt IntKind.u64.bits x &&& BitVec.ofInt IntKind.u64.bits 255).toNat ≤ 255 := by
    rw [BitVec.toNat_and]
    exact Nat.and_le_right
  have hw : ∀ n : Int, IntKind.u64.wrap n = n % 18446744073709551616 := fun n => by simp [IntKind.wrap, IntKind.bits, IntKind.signed]
  rw [show Go.bits .and .u64 x 255 = IntKind.u64.wrap ((BitVec.ofInt IntKind.u64.bits x &&& BitVec.ofInt IntKind.u64.bits 255).toNat : Int) from rfl, hw]
  omega

theorem next_cm {C : List Int} (hC : Code8 C) (a s : Int) (h0 : 0 ≤ a) (h1 : a ≤ 1000000000) : Cm (fun _ => spec_l1Cur_next.f C a s) (fun r => 0 ≤ r.1 ∧ r.1 ≤ 255 ∧ r.2.1 = a + 1) := by
  have hr := rd8 hC a
  have hw : wrap64 (a + 1) = a + 1 := w64 _ (by omega) (by omega)
  unfold spec_l1Cur_next.f
  rw [hw]
  refine Cm.ite (fun _ => Cm.pos h0 (Cm.ite (fun _ => Cm.now ?_) (fun _ => Cm.now ?_))) (fun _ => Cm.ite (fun _ => Cm.now ?_) (fun _ => Cm.now ?_))
  · dsimp only
    rw [w64 _ (by omega) (by omega)]
    exact ⟨hr.1, hr.2, rfl⟩
  · dsimp only
    have hb := and255 ((IntKind.u64.wrap ((IntKind.u64.wrap ((IntKind.u64.wrap (s * 6364136223846793005)) + (IntKind.u64.wrap (wrap64 (rd C a))))) + 462197)) / 1099511627776)
    rw [w64 _ (by omega) (by omega)]
    exact ⟨hb.1, hb.2, rfl⟩
  · exact ⟨by dsimp only; omega, by dsimp only; omega, rfl⟩
  · dsimp only
    have hb := and255 ((IntKind.u64.wrap ((IntKind.u64.wrap (IntKind.u64.wrap (s * 6364136223846793005))) + 462197)) / 1099511627776)
    rw [w64 _ (by omega) (by omega)]
    exact ⟨hb.1, hb.2, rfl⟩

/-- A number that is picked. -/
theorem pick_cm {C : List Int} (hC : Code8 C) (a s n : Int) (h0 : 0 ≤ a) (h1 : a ≤ 100000000) (hn : 1 ≤ n) (hN : n ≤ 100000) : Cm (fun _ => spec_l1Cur_pick.f C a s n) (fun r => 0 ≤ r.1 ∧ r.1 < n ∧ a ≤ r.2.1 ∧ r.2.1 ≤ a + 2) := by
  unfold spec_l1Cur_pick.f
  refine Cm.ite (fun _ => Cm.now ⟨by dsimp only; omega, by dsimp only; omega, by dsimp only; omega, by dsimp only; omega⟩) (fun hc => Cm.bind (next_cm hC a s h0 (by omega)) ?_)
  rintro ⟨x, a1, s1⟩ ⟨x0, x1, x2⟩
  dsimp only at x0 x1 x2 ⊢
  have tm : ∀ y : Int, 0 ≤ y → 0 ≤ Int.tmod y n ∧ Int.tmod y n < n := fun y hy => by
    rw [Int.tmod_eq_emod_of_nonneg hy]
    exact ⟨Int.emod_nonneg _ (by omega), Int.emod_lt_of_pos _ (by omega)⟩
  refine Cm.ite (fun hb => Cm.bind (next_cm hC a1 s1 (by omega) (by omega)) ?_) (fun hb => Cm.neg (by omega) (Cm.now ?_))
  · rintro ⟨y, a2, s2⟩ ⟨y0, y1, y2⟩
    dsimp only at y0 y1 y2 ⊢
    refine Cm.neg (by omega) (Cm.now ?_)
    dsimp only
    rw [w64 (x * 256) (by omega) (by omega), w64 (x * 256 + y) (by omega) (by omega)]
    have := tm (x * 256 + y) (by omega)
    exact ⟨this.1, this.2, by omega, by omega⟩
  · have := tm x x0
    dsimp only
    exact ⟨this.1, this.2, by omega, by omega⟩
theorem one_cm {C : List Int} (hC : Code8 C) (a s n : Int) (h0 : 0 ≤ a) (h1 : a ≤ 100000000) (hn : 1 ≤ n) (hN : n ≤ 100000) : Cm (fun _ => spec_l1Cur_one.f C a s n) (fun r => a ≤ r.2.1 ∧ r.2.1 ≤ a + 2) := by
  unfold spec_l1Cur_one.f
  refine Cm.bind (pick_cm hC a s n h0 h1 hn hN) ?_
  rintro ⟨x, a1, s1⟩ ⟨_, _, x2, x3⟩
  exact Cm.now ⟨x2, x3⟩

end Go.Proofs.YtagniekpapmdgaaDoor.Gr
