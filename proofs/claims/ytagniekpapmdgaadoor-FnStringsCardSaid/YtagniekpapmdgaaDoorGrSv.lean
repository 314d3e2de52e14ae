/- A sealed text, opened, by both; no conditions beyond those that each theorem names. -/
import Derived.Test.YtagniekpapmdgaaDoorGrSu
import Derived.Test.YtagniekpapmdgaaDoorPx0
import Derived.Test.YtagniekpapmdgaaDoorPxImplVerifyChecksum
import Derived.Test.YtagniekpapmdgaaDoorPxStringsCut
namespace Go.Proofs.YtagniekpapmdgaaDoor.Gr
open Go.RowKit Go.Proofs.YtagniekpapmdgaaDoor.P Go.Proofs.YtagniekpapmdgaaDoorW.PrintWords Go.Proofs.YtagniekpapmdgaaDoorW.PrintLast

/-- What stands ahead of the first sign of the sld. -/
def ahead (s : ByteArray) : ByteArray := ⟨(Lib.cut s.data.toList [35]).1.toArray⟩
theorem ahead_data (s : ByteArray) : (ahead s).data.toList = (Lib.cut s.data.toList [35]).1 := by unfold ahead; rw [List.toList_toArray]
theorem cut_none {l : List UInt8} (h : (35 : UInt8) ∉ l) : Lib.cut l [35] = (l, [], false) := cutN h
theorem cut_some {p q : List UInt8} (h : (35 : UInt8) ∉ p) : Lib.cut (p ++ 35 :: q) [35] = (p, q, true) := cutS h
theorem cut_cases (l : List UInt8) : (35 : UInt8) ∉ l ∨ ∃ p q, l = p ++ 35 :: q ∧ (35 : UInt8) ∉ p := cutC 35 l

theorem head_ahead (s : ByteArray) : 0 < (Lib.splitB ⟨#[35]⟩ 0 (Lib.countB s ⟨#[35]⟩) s).length ∧ rdOf ByteArray.empty (Lib.splitB ⟨#[35]⟩ 0 (Lib.countB s ⟨#[35]⟩) s) 0 = ahead s := by
  have h := split_lib s 35
  have hh : ∃ t, spl 35 [] s.data.toList = (Lib.cut s.data.toList [35]).1 :: t := by
    rcases cut_cases s.data.toList with h1 | ⟨p, q, h1, h2⟩
    · rw [cut_none h1, spl_none _ _ h1]; exact ⟨[], rfl⟩
    · rw [h1, cut_some h2, spl_app _ _ _ h2]; exact ⟨_, rfl⟩
  obtain ⟨t, ht⟩ := hh
  rw [ht] at h
  cases hL : Lib.splitB ⟨#[35]⟩ 0 (Lib.countB s ⟨#[35]⟩) s with
  | nil => rw [hL] at h; cases h
  | cons x u =>
    rw [hL, List.map_cons] at h
    injection h with h1 _
    refine ⟨by simp, ?_⟩
    show x = ahead s
    exact ba_ext (by rw [h1, ahead_data])

/-- What both hand back for a sealed text. -/
noncomputable def opn (s : ByteArray) : ByteArray × Bool := open Classical in if s.size ≤ 4000 ∧ sld (ahead s) = s then (ahead s, true) else (⟨#[]⟩, false)
theorem ba_toList {a b : ByteArray} : a.toList = b.toList ↔ a = b := by
  rw [ByteArray.toList_eq, ByteArray.toList_eq]
  exact ⟨ba_ext, fun h => by rw [h]⟩
theorem ahead_size (s : ByteArray) : (ahead s).size ≤ s.size := by
  rw [ba_size, ba_size, ahead_data]
  rcases cut_cases s.data.toList with h1 | ⟨p, q, h1, h2⟩
  · rw [cut_none h1]; exact Nat.le_refl _
  · rw [h1, cut_some h2]; simp

theorem opn_impl (s : ByteArray) (hs : s.size ≤ 1048576) : Ev (fun k => impl_VerifyChecksum.f k s) (opn s) := by
  have ha := ahead_size s
  refine Cm.ev ?_
  unfold impl_VerifyChecksum.f strings_Cut.f
  rw [if_pos (by omega)]
  refine Cm.bindE (Ev.now _) ?_
  dsimp only
  refine Cm.bindE (app_impl (ahead s) (by omega)) ?_
  have key : sld (ahead s) = s → (Lib.cut s.data.toList [35]).2.2 = true ∧ (35 : UInt8) ∉ (ahead s).data.toList := fun e => by
    rw [ahead_data]
    rcases cut_cases s.data.toList with h1 | ⟨p, q, h1, h2⟩
    · refine (h1 ?_).elim
      rw [← e, sld_data]
      simp
    · rw [h1, cut_some h2]; exact ⟨rfl, h2⟩
  by_cases e : s.size ≤ 4000 ∧ sld (ahead s) = s
  · have ho : opn s = (ahead s, true) := if_pos e
    rw [ho]
    obtain ⟨k1, k2⟩ := key e.2
    have hap : app (ahead s) = (sld (ahead s), true) := by
      unfold app
      rw [if_pos ⟨by omega, k2, by rw [e.2]; exact e.1⟩]
    rw [hap]
    exact Cm.pos k1 (Cm.pos rfl (Cm.pos (ba_toList.2 e.2) (Cm.now rfl)))
  · have ho : opn s = (⟨#[]⟩, false) := if_neg e
    rw [ho]
    refine Cm.ite (fun _ => ?_) (fun _ => Cm.now rfl)
    by_cases c : (ahead s).size ≤ 4000 ∧ (35 : UInt8) ∉ (ahead s).data.toList ∧ (sld (ahead s)).size ≤ 4000
    · have ha2 : app (ahead s) = (sld (ahead s), true) := if_pos c
      rw [ha2]
      refine Cm.pos rfl (Cm.neg (fun h' => ?_) (Cm.now rfl))
      have h2 : sld (ahead s) = s := ba_toList.1 h'
      exact e ⟨by rw [h2] at c; exact c.2.2, h2⟩
    · have ha2 : app (ahead s) = (⟨#[]⟩, false) := if_neg c
      rw [ha2]
      exact Cm.neg (by decide) (Cm.now rfl)

end Go.Proofs.YtagniekpapmdgaaDoor.Gr
