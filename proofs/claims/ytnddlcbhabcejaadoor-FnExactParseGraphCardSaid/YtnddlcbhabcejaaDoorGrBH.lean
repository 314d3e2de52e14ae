/- What is marked in a graph is held; no conditions beyond those that each theorem names. -/
import Derived.Test.YtnddlcbhabcejaaDoorGrB
import Derived.Test.YtnddlcbhabcejaaDoorPxLawC
namespace Go.Proofs.YtnddlcbhabcejaaDoor.Gr
open Go.RowKit Go.Proofs.YtnddlcbhabcejaaDoor.P Go.Proofs.YtnddlcbhabcejaaDoorW.PrintWords Go.Proofs.YtnddlcbhabcejaaDoorW.PrintLast

theorem mark_held (s : Int) (l : List S85) (hl : l.length ≤ 1048576) : ∃ r : List S85, Ev (fun k => laws_markGraph.f k s l 1) (1 + 2 * (l.length : Int), r) ∧ Ev (fun k => laws_heldGraph.f k s r 1) (1 + 2 * (l.length : Int)) := by
  obtain ⟨r, h1, _, h3, K, hK⟩ := mark_ev l.length l 1 0 hl (by omega) (by omega) (by omega) (by omega)
  obtain ⟨K2, hK2⟩ := held_ev l.length r 1 0 (by omega) (by omega) (by omega) (by omega) (by omega) (fun j a b => h3 j a (by omega))
  dsimp only at hK hK2
  refine ⟨r, ⟨K, fun k hk => ?_⟩, ⟨K2, fun k hk => ?_⟩⟩
  · dsimp only
    unfold laws_markGraph.f laws_markIntA2S.f
    rw [hK k hk]
    rfl
  · dsimp only
    unfold laws_heldGraph.f laws_heldIntA2S.f
    rw [hK2 k hk, Option.bind_some, if_neg (by omega)]
end Go.Proofs.YtnddlcbhabcejaaDoor.Gr
