/- Functions of the program as Lean functions, and that each call comes to what they say; written by a program of this session; no conditions beyond those that each theorem names. -/
import Derived.Test.YtagniekpapmdgaaDoorPx0
import Derived.Test.YtagniekpapmdgaaDoorPxImplA
import Derived.Test.YtagniekpapmdgaaDoorPxStrconvItoa19
namespace Go.Proofs.YtagniekpapmdgaaDoor.P
open Go.RowKit Go.Proofs.YtagniekpapmdgaaDoorW.PrintWords Go.Proofs.YtagniekpapmdgaaDoorW.PrintLast Go.Proofs.YtagniekpapmdgaaDoorW.PrintMore
attribute [local go_sem] max2_int min2_int max_two min_two max_three min_three max_four min_four   -- for this text's walks alone
set_option linter.unusedVariables false
set_option linter.unusedSimpArgs false

/-! ### impl_ParseInt: function 9 -/
/-- The number of a text, if it has one of at most six digits and this is its text. -/
def impl_ParseInt.f (a0 : ByteArray) : Option (Int × Bool) := if a0.size ≤ 281474976710656 then some (match Lib.atoiAll a0.data.toList with | .ok v => if -999999 ≤ v ∧ v ≤ 999999 ∧ Lib.itoa v = a0.toList then (v, true) else (0, false) | _ => (0, false)) else none
theorem atoi_below {w w' : World} {q : TypeId} (h : w' = w ∨ ∃ t, w' = Lib.bytesWorld w q t) : Below w.heap.size w w' := by
 rcases h with rfl | ⟨t, rfl⟩
 ·exact Below.refl _ _
 ·exact Lib.bytesWorld_below w q t
set_option maxHeartbeats 8000000 in
set_option maxRecDepth 100000 in
theorem impl_ParseInt.calls (a0 : ByteArray) (r1 : Int) (r2 : Bool) (w : World) (h : impl_ParseInt.f a0 = some (r1, r2)) (hVt : VarT w) (hVe : VarE w) :
  Calls Tryd.prog 9 #[.string a0] w fun e w' => e = .returned (.tuple #[.int .i64 r1, .bool r2]) ∧ Below w.heap.size w w' := by
 unfold impl_ParseInt.f at h
 by_cases hc : a0.size ≤ 281474976710656
 ·rw [if_pos hc] at h
  have HVT := Aside0.mk hVt
  clear hVt
  have HC := Aside0.mk hc
  clear hc
  rcases hA : Lib.atoiAll a0.data.toList with v | _ | _
  ·rw [hA] at h
   dsimp only at h
   have HA := Aside0.mk hA
   clear hA
   have hb1 := Lib.atoiAll_bounds HA.out
   have HX := Aside0.mk (Tryd.strconv_Atoi_ok a0 (by have := HC.out; omega) v HA.out w)
   have HI := Aside0.mk (show strconv_Itoa_19.f v = some ⟨(Lib.itoa v).toArray⟩ by unfold strconv_Itoa_19.f; rw [if_pos hb1])
   clear hb1 HA hVe
   by_cases h12 : -999999 ≤ v ∧ v ≤ 999999
   ·have HW := Aside0.mk (show impl_within.f v (-999999) 999999 = some true by unfold impl_within.f; rw [if_pos h12.1]; simp [h12.2])
    by_cases h3 : Lib.itoa v = a0.toList
    ·rw [if_pos ⟨h12.1, h12.2, h3⟩] at h
     simp only [Option.some.injEq, Prod.mk.injEq] at h
     obtain ⟨rfl, rfl⟩ := h
     have h3b : (Lib.itoa v == a0.toList) = true := beq_iff_eq.2 h3
     clear h12 h3
     go_enter Tryd.func9, Tryd.ntmps9
     go_wp2_with (first | (go_at_call 24; refine HX.out.mono ?_; rintro e w1 ⟨rfl, hw⟩; have HB := Aside0.mk (atoi_below hw); clear hw) | (go_at_call 18; refine (impl_within.calls v (-999999) 999999 true _ HW.out).mono ?_; rintro e w' ⟨rfl, ⟨nd, rfl⟩⟩) | (go_at_call 19; refine (strconv_Itoa_19.calls v _ _ HI.out (HVT.out.on (by repeat (first | exact HB.out | apply below_alloc | apply pw_below_drewN | apply below_drew1)))).mono ?_; rintro e w2 ⟨rfl, hb⟩; have HB2 := Aside0.mk (below_step (by repeat (first | exact HB.out | apply below_alloc | apply pw_below_drewN | apply below_drew1)) hb); clear hb HB; have HB := HB2; clear HB2))
     go_ret2
     exact ⟨by first | rfl | (simp; done) | (simp [*]; done), by repeat (first | exact HB.out | apply below_alloc | apply pw_below_drewN | apply below_drew1)⟩
    ·rw [if_neg (fun h_ => h3 h_.2.2)] at h
     simp only [Option.some.injEq, Prod.mk.injEq] at h
     obtain ⟨rfl, rfl⟩ := h
     have h3b : (Lib.itoa v == a0.toList) = false := beq_eq_false_iff_ne.2 h3
     clear h12 h3
     go_enter Tryd.func9, Tryd.ntmps9
     go_wp2_with (first | (go_at_call 24; refine HX.out.mono ?_; rintro e w1 ⟨rfl, hw⟩; have HB := Aside0.mk (atoi_below hw); clear hw) | (go_at_call 18; refine (impl_within.calls v (-999999) 999999 true _ HW.out).mono ?_; rintro e w' ⟨rfl, ⟨nd, rfl⟩⟩) | (go_at_call 19; refine (strconv_Itoa_19.calls v _ _ HI.out (HVT.out.on (by repeat (first | exact HB.out | apply below_alloc | apply pw_below_drewN | apply below_drew1)))).mono ?_; rintro e w2 ⟨rfl, hb⟩; have HB2 := Aside0.mk (below_step (by repeat (first | exact HB.out | apply below_alloc | apply pw_below_drewN | apply below_drew1)) hb); clear hb HB; have HB := HB2; clear HB2))
     go_ret2
     exact ⟨by first | rfl | (simp; done) | (simp [*]; done), by repeat (first | exact HB.out | apply below_alloc | apply pw_below_drewN | apply below_drew1)⟩
   ·have HW := Aside0.mk (show impl_within.f v (-999999) 999999 = some false by
     unfold impl_within.f
     by_cases h1 : v ≥ -999999
     ·rw [if_pos h1, decide_eq_false (by omega)]
     ·rw [if_neg h1])
    rw [if_neg (fun h_ => h12 ⟨h_.1, h_.2.1⟩)] at h
    simp only [Option.some.injEq, Prod.mk.injEq] at h
    obtain ⟨rfl, rfl⟩ := h
    clear h12
    go_enter Tryd.func9, Tryd.ntmps9
    go_wp2_with (first | (go_at_call 24; refine HX.out.mono ?_; rintro e w1 ⟨rfl, hw⟩; have HB := Aside0.mk (atoi_below hw); clear hw) | (go_at_call 18; refine (impl_within.calls v (-999999) 999999 false _ HW.out).mono ?_; rintro e w' ⟨rfl, ⟨nd, rfl⟩⟩))
    go_ret2
    exact ⟨by first | rfl | (simp; done) | (simp [*]; done), by repeat (first | exact HB.out | apply below_alloc | apply pw_below_drewN | apply below_drew1)⟩
  ·rw [hA] at h
   simp only [Option.some.injEq, Prod.mk.injEq] at h
   obtain ⟨rfl, rfl⟩ := h
   obtain ⟨⟨ev, hv, hev⟩, _⟩ := hVe
   have HX := Aside0.mk (Tryd.strconv_Atoi_syntax a0 HC.out hA ev w hv hev)
   clear hA hv hev
   go_enter Tryd.func9, Tryd.ntmps9
   go_wp2_with (first | (go_at_call 24; refine HX.out.mono ?_; rintro e w' ⟨N, rfl, _, _, hb⟩; have HB := Aside0.mk hb; clear hb))
   go_ret2
   exact ⟨by first | rfl | (simp; done) | (simp [*]; done), by repeat (first | exact HB.out | apply below_alloc | apply pw_below_drewN | apply below_drew1)⟩
  ·rw [hA] at h
   simp only [Option.some.injEq, Prod.mk.injEq] at h
   obtain ⟨rfl, rfl⟩ := h
   obtain ⟨_, ev, hv, hev⟩ := hVe
   have HX := Aside0.mk (Tryd.strconv_Atoi_range a0 HC.out hA ev w hv hev)
   clear hA hv hev
   go_enter Tryd.func9, Tryd.ntmps9
   go_wp2_with (first | (go_at_call 24; refine HX.out.mono ?_; rintro e w' ⟨N, rfl, _, _, hb⟩; have HB := Aside0.mk hb; clear hb))
   go_ret2
   exact ⟨by first | rfl | (simp; done) | (simp [*]; done), by repeat (first | exact HB.out | apply below_alloc | apply pw_below_drewN | apply below_drew1)⟩
 ·rw [if_neg hc] at h
  cases h

end Go.Proofs.YtagniekpapmdgaaDoor.P
