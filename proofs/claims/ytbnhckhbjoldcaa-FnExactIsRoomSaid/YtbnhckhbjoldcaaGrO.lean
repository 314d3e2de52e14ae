/- A graph and a set of it, by both; no conditions beyond those that each theorem names. -/
import Derived.Test.YtbnhckhbjoldcaaGrE
import Derived.Test.YtbnhckhbjoldcaaPxSpecL3Both
namespace Go.Proofs.Ytbnhckhbjoldcaa.Gr
open Go.RowKit Go.Proofs.Ytbnhckhbjoldcaa.P Go.Proofs.YtbnhckhbjoldcaaW.PrintWords Go.Proofs.YtbnhckhbjoldcaaW.PrintLast Go.Proofs.YtbnhckhbjoldcaaW.PrintMore

/-- A good graph and a set of it, as both find them. -/
theorem both_sets (s : Int) (l : List S82) (L : List Int) (hl : l.length ≤ 1048576) (hL : L.length ≤ 1048576) : ∃ b, (b = true → Gr.Good s l ∧ Sorted l ∧ IsSet s L) ∧ Ev (fun k => spec_l3Both.f k s l L) b ∧ Ev (fun k => impl_isSet.f k s l L) b := by
  obtain ⟨b, hg, hS, hI⟩ := isGraph_full s l hl
  cases b with
  | false =>
    refine ⟨false, fun h => Bool.noConfusion h, Cm.ev ?_, set_impl_no s l L hI⟩
    unfold spec_l3Both.f
    exact Cm.bindE hS (Cm.neg (by decide) (Cm.now rfl))
  | true =>
    obtain ⟨hG, hO⟩ := hg rfl
    obtain ⟨b1, e1, h1⟩ := set_spec s l L hL hG.1 hG.2.1
    obtain ⟨b2, e2, h2⟩ := set_impl s l L hL hG hI
    have e : b1 = b2 := Bool.eq_iff_iff.2 (h1.trans h2.symm)
    subst e
    refine ⟨b1, fun h => ⟨hG, hO, h1.1 h⟩, Cm.ev ?_, e2⟩
    unfold spec_l3Both.f
    exact Cm.bindE hS (Cm.pos rfl (Cm.bindE e1 (Cm.now rfl)))

end Go.Proofs.Ytbnhckhbjoldcaa.Gr
