/- Lists of pairs: one is equal to itself, and what is marked is held; no conditions beyond those that each theorem names. -/
import Derived.Test.YtmbgpbanbffchaaGrB
import Derived.Test.YtmbgpbanbffchaaGrC
namespace Go.Proofs.Ytmbgpbanbffchaa.Gr
open Go.RowKit Go.Proofs.Ytmbgpbanbffchaa.P Go.Proofs.YtmbgpbanbffchaaW.PrintWords Go.Proofs.YtmbgpbanbffchaaW.PrintLast

theorem eqP_ev (l : List S75) (hl : l.length ≤ 1048576) : Ev (fun k => laws_eqIntA2S.f k l l) true := by
  refine Cm.ev ?_
  unfold laws_eqIntA2S.f
  exact Cm.pos rfl (Cm.of (eq_ev l hl l.length 0 (by omega) (by omega)) rfl)
theorem mark_heldP (l : List S75) (hl : l.length ≤ 1048576) : ∃ r : List S75, Ev (fun k => laws_markIntA2S.f k l 1) (1 + 2 * (l.length : Int), r) ∧ Ev (fun k => laws_heldIntA2S.f k r 1) (1 + 2 * (l.length : Int)) := by
  obtain ⟨r, h1, _, h3, K, hK⟩ := mark_ev l.length l 1 0 hl (by omega) (by omega) (by omega) (by omega)
  obtain ⟨K2, hK2⟩ := held_ev l.length r 1 0 (by omega) (by omega) (by omega) (by omega) (by omega) (fun j a b => h3 j a (by omega))
  exact ⟨r, ⟨K, hK⟩, ⟨K2, hK2⟩⟩

end Go.Proofs.Ytmbgpbanbffchaa.Gr
