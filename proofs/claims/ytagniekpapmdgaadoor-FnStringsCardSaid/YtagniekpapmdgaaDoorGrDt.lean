/- Texts that are drawn; no conditions beyond those that each theorem names. -/
import Derived.Test.YtagniekpapmdgaaDoorGrDw
import Derived.Test.YtagniekpapmdgaaDoorGrSb
import Derived.Test.YtagniekpapmdgaaDoorPxSpecL1CurAny1
import Derived.Test.YtagniekpapmdgaaDoorPxSpecL1CurOf
namespace Go.Proofs.YtagniekpapmdgaaDoor.Gr
open Go.RowKit Go.Proofs.YtagniekpapmdgaaDoor.P Go.Proofs.YtagniekpapmdgaaDoorW.PrintWords Go.Proofs.YtagniekpapmdgaaDoorW.PrintLast Go.Proofs.YtagniekpapmdgaaDoorW.PrintMore

theorem of_cm {C : List Int} (hC : Code8 C) (a s : Int) (l : List ByteArray) (h0 : 0 ≤ a) (h1 : a ≤ 100000000) (hn : 1 ≤ l.length) (hN : l.length ≤ 1000) : Cm (fun _ => spec_l1Cur_of.f C a s l) (fun r => r.1 ∈ l ∧ a ≤ r.2.1 ∧ r.2.1 ≤ a + 2) := by
  unfold spec_l1Cur_of.f
  refine Cm.bind (pick_cm hC a s l.length h0 h1 (by omega) (by omega)) ?_
  rintro ⟨x, a1, s1⟩ ⟨x0, x1, x2, x3⟩
  dsimp only at x0 x1 x2 x3 ⊢
  refine Cm.pos x0 (Cm.pos x1 (Cm.now ⟨?_, x2, x3⟩))
  obtain ⟨y, _, ey, _, hm⟩ := atO l x x0 x1
  dsimp only
  rw [ey]
  exact hm
theorem any1_cm {C : List Int} (hC : Code8 C) (a s : Int) (h0 : 0 ≤ a) (h1 : a ≤ 100000000) : Cm (fun _ => spec_l1Cur_any1.f C a s) (fun r => r.1.size ≤ 10 ∧ a ≤ r.2.1 ∧ r.2.1 ≤ a + 2) := by
  unfold spec_l1Cur_any1.f
  refine Cm.bind (of_cm hC a s _ h0 h1 (by decide) (by decide)) ?_
  rintro ⟨x, a1, s1⟩ ⟨hx, x2, x3⟩
  refine Cm.now ⟨?_, x2, x3⟩
  dsimp only at hx ⊢
  simp only [List.mem_cons, List.not_mem_nil, or_false] at hx
  rcases hx with h | h | h | h | h | h | h | h | h <;> rw [h] <;> decide

end Go.Proofs.YtagniekpapmdgaaDoor.Gr
