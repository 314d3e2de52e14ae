/- The pure law FnExactSplitString: both cut a text at each place of a byte. -/
import Derived.Test.YtnddlcbhabcejaaDoorGrSt
import Derived.Test.YtnddlcbhabcejaaDoorGrSs
import Derived.Test.YtnddlcbhabcejaaDoorPxImplSplitString
import Derived.Test.YtnddlcbhabcejaaDoorPxLawsFnExactSplitString
import Derived.Test.YtnddlcbhabcejaaDoorPxSpecSplitString
import Derived.Test.YtnddlcbhabcejaaDoorPxStringsSplit
namespace Go.Proofs.YtnddlcbhabcejaaDoor.Pure
open Go.RowKit Go.Proofs.YtnddlcbhabcejaaDoor.P Go.Proofs.YtnddlcbhabcejaaDoorW.PrintWords Go.Proofs.YtnddlcbhabcejaaDoorW.PrintLast Go.Proofs.YtnddlcbhabcejaaDoorW.PrintMore Go.Proofs.YtnddlcbhabcejaaDoor.Gr

theorem both (s p : ByteArray) : ∃ r b, r.length ≤ 1048577 ∧ Ev (fun k => spec_SplitString.f k s p) (r, b) ∧ impl_SplitString.f s p = some (r, b) := by
  by_cases hp : (p.size : Int) = 1
  · obtain ⟨c, rfl, hc⟩ := one_of (a := p) (by omega)
    by_cases hs : (s.size : Int) > 4000
    · refine ⟨[], false, by simp, Cm.ev ?_, ?_⟩
      · unfold spec_SplitString.f
        exact Cm.pos hp (Cm.pos hs (Cm.now rfl))
      · unfold impl_SplitString.f
        rw [if_pos hs]
    · have h1 := split_ev s c (by omega)
      have hlen := Lib.splitB_all ⟨#[c]⟩ (by omega) 0 _ s rfl
      have hle := Lib.countB_le ⟨#[c]⟩ (by omega) s.size s (Nat.le_refl _)
      refine ⟨_, true, by rw [hlen]; omega, Cm.ev ?_, ?_⟩
      · unfold spec_SplitString.f
        rw [hc]
        exact Cm.pos hp (Cm.neg hs (Cm.pos (by omega) (Cm.bindE h1 (Cm.now rfl))))
      · unfold impl_SplitString.f strings_Split.f
        rw [if_neg hs, if_pos hp, if_pos ⟨by omega, by omega⟩]
        rfl
  · refine ⟨[], false, by simp, Cm.ev ?_, ?_⟩
    · unfold spec_SplitString.f
      exact Cm.neg hp (Cm.now rfl)
    · unfold impl_SplitString.f
      by_cases hs : (s.size : Int) > 4000
      · rw [if_pos hs]
      · rw [if_neg hs, if_neg hp]

theorem FnExactSplitString : laws_FnExactSplitString.Pure := by
  intro s p _ _
  refine Ev.rounds (Cm.ev ?_)
  unfold laws_FnExactSplitString.f
  refine Cm.ite (fun _ => Cm.now rfl) (fun _ => Cm.ite (fun _ => Cm.now rfl) (fun _ => ?_))
  obtain ⟨r, b, hr, E1, E2⟩ := both s p
  obtain ⟨r2, E3, E4⟩ := mark_heldSt r hr
  have hb : ¬ (b != b) = true := by cases b <;> decide
  rw [E2]
  refine Cm.bindE E1 (Cm.bindE (Ev.now _) (Cm.bindE (eqSt_ev r hr) (Cm.pos rfl (Cm.neg hb (Cm.bindE E3 (Cm.bindE E4 ?_))))))
  refine Cm.neg (by omega) (Cm.pos rfl (Cm.bindE (Ev.now _) (Cm.bindE (eqSt_ev r hr) (Cm.pos rfl (Cm.neg hb (Cm.bindE E4 ?_))))))
  exact Cm.neg (by omega) (Cm.pos rfl (Cm.now rfl))

end Go.Proofs.YtnddlcbhabcejaaDoor.Pure
