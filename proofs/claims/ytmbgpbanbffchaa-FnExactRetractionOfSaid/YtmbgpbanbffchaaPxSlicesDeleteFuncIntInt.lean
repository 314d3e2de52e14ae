/- Functions of the program as Lean functions, and that each call comes to what they say; written by a program of this session; no conditions beyond those that each theorem names. -/
import Derived.Test.YtmbgpbanbffchaaPx0
import Derived.Test.YtmbgpbanbffchaaPxSlicesA
namespace Go.Proofs.Ytmbgpbanbffchaa.P
open Go.RowKit Go.Proofs.YtmbgpbanbffchaaW.PrintWords Go.Proofs.YtmbgpbanbffchaaW.PrintLast Go.Proofs.YtmbgpbanbffchaaW.PrintMore
attribute [local go_sem] max2_int min2_int max_two min_two max_three min_three max_four min_four   -- for this text's walks alone
set_option linter.unusedVariables false
set_option linter.unusedSimpArgs false

/-! ### slices_DeleteFunc_int_int: function 154 -/
def slices_DeleteFunc_int_int.f (p : Int → Bool) (xs : List Int) : Option (List Int) := some (xs.filter fun x => !p x)
theorem idx_cases (p : Int → Bool) (xs : List Int) : (idxF p xs = -1 ∧ ∀ j : Nat, j < xs.length → p (rd xs j) = false) ∨ ∃ k : Nat, k < xs.length ∧ idxF p xs = k ∧ p (rd xs k) = true ∧ ∀ j : Nat, j < k → p (rd xs j) = false := by
 have g : ∀ j (h : j < xs.length), rd xs j = xs[j] := fun j h => by unfold rd; rw [List.getD_eq_getElem?_getD, Int.toNat_natCast, List.getElem?_eq_getElem h]; rfl
 by_cases h : xs.findIdx p < xs.length
 ·refine .inr ⟨xs.findIdx p, h, by unfold idxF; rw [if_pos h], by rw [g _ h]; exact List.findIdx_getElem, fun j hj => ?_⟩
  rw [g j (by omega)]
  have := List.not_of_lt_findIdx hj
  simpa using this
 ·refine .inl ⟨by unfold idxF; rw [if_neg h], fun j hj => ?_⟩
  rw [g j hj]
  have h' : xs.findIdx p = xs.length := by have := List.findIdx_le_length (p := p) (xs := xs); omega
  have := List.not_of_lt_findIdx (p := p) (xs := xs) (i := j) (by omega)
  simpa using this
theorem filter_none (p : Int → Bool) (xs : List Int) (h : ∀ j : Nat, j < xs.length → p (rd xs j) = false) : (xs.filter fun x => !p x) = xs := by
 refine List.filter_eq_self.2 (fun x hx => ?_)
 obtain ⟨j, hj, rfl⟩ := List.mem_iff_getElem.1 hx
 have g : rd xs j = xs[j] := by unfold rd; rw [List.getD_eq_getElem?_getD, Int.toNat_natCast, List.getElem?_eq_getElem hj]; rfl
 rw [← g, h j hj]
 rfl
theorem take_snoc_rd (xs : List Int) (j : Nat) (h : j < xs.length) : xs.take (j + 1) = xs.take j ++ [rd xs j] := by
 have g : rd xs j = xs[j] := by unfold rd; rw [List.getD_eq_getElem?_getD, Int.toNat_natCast, List.getElem?_eq_getElem h]; rfl
 rw [List.take_succ_eq_append_getElem h, g]
/-- The state of the rewriting: i kept of the first j. -/
def DelInv (p : Int → Bool) (xs : List Int) (i j : Nat) (dk : List Int) : Prop :=
 i < j ∧ j ≤ xs.length ∧ dk.length = xs.length ∧ dk.take i = ((xs.take j).filter fun x => !p x) ∧ ∀ m : Nat, j ≤ m → m < xs.length → rd dk m = rd xs m
theorem DelInv.start {p : Int → Bool} {xs : List Int} {k : Nat} (hk : k < xs.length) (h1 : p (rd xs k) = true) (h0 : ∀ j : Nat, j < k → p (rd xs j) = false) : DelInv p xs k (k + 1) xs := by
 refine ⟨by omega, by omega, rfl, ?_, fun _ _ _ => rfl⟩
 rw [take_snoc_rd xs k hk, List.filter_append, List.filter_cons, h1]
 have hl : (xs.take k).length = k := by rw [List.length_take]; omega
 have := filter_none p (xs.take k) (fun j hj => by
  have e : rd (xs.take k) j = rd xs j := by unfold rd; rw [List.getD_eq_getElem?_getD, List.getD_eq_getElem?_getD, Int.toNat_natCast, List.getElem?_take_of_lt (by omega)]
  rw [e]
  exact h0 j (by omega))
 rw [this]
 simp
theorem DelInv.skip {p : Int → Bool} {xs dk : List Int} {i j : Nat} (h : DelInv p xs i j dk) (hj : j < xs.length) (h1 : p (rd xs j) = true) : DelInv p xs i (j + 1) dk := by
 obtain ⟨a, b, c, d, e⟩ := h
 refine ⟨by omega, by omega, c, ?_, fun m h2 h3 => e m (by omega) h3⟩
 rw [take_snoc_rd xs j hj, List.filter_append, List.filter_cons, h1, d]
 simp
theorem DelInv.keep {p : Int → Bool} {xs dk : List Int} {i j : Nat} (h : DelInv p xs i j dk) (hj : j < xs.length) (h1 : p (rd xs j) = false) : DelInv p xs (i + 1) (j + 1) (dk.set i (rd xs j)) := by
 obtain ⟨a, b, c, d, e⟩ := h
 refine ⟨by omega, by omega, by rw [List.length_set]; exact c, ?_, fun m h2 h3 => ?_⟩
 ·rw [take_snoc_rd xs j hj, List.filter_append, List.filter_cons, h1, ← d, take_snoc_rd (dk.set i (rd xs j)) i (by rw [List.length_set]; omega)]
  have e1 : ∀ x, rd (dk.set i x) i = x := fun x => by unfold rd; rw [List.getD_eq_getElem?_getD, Int.toNat_natCast, List.getElem?_set_self (by omega)]; rfl
  rw [e1, List.take_set_of_le (Nat.le_refl _)]
  rfl
 ·have := e m (by omega) h3
  rw [← this]
  generalize rd xs j = x
  unfold rd
  rw [List.getD_eq_getElem?_getD, Int.toNat_natCast, List.getElem?_set_ne (by omega), List.getD_eq_getElem?_getD]
theorem R_clear {base g c n : Nat} {ok : Nat → Prop} : ∀ (m : Nat) (i : Nat) (W : World) (dk : List Int), Kd.R (Kd.int .i64) 3 W base ok (.slice (some ⟨g, 0, none⟩) n c) dk → i + m ≤ n →
  ∃ dk', Kd.R (Kd.int .i64) 3 (W.setCells g i (List.replicate m (.int .i64 0))) base ok (.slice (some ⟨g, 0, none⟩) n c) dk' ∧ dk'.take i = dk.take i ∧ Kept W (W.setCells g i (List.replicate m (.int .i64 0))) (fun k => k = g)
 | 0, i, W, dk, h, _ => ⟨dk, h, rfl, Kept.refl _ _⟩
 | m + 1, i, W, dk, h, hn => by
  have h1 := Kd.R_putg h (i : Int) 0
  rw [Int.toNat_natCast] at h1
  obtain ⟨dk', h2, h3, h4⟩ := R_clear (base := base) (ok := ok) m (i + 1) _ _ h1.1 (by omega)
  refine ⟨dk', h2, ?_, ?_⟩
  ·have : (dk'.take (i + 1)).take i = ((dk.set i 0).take (i + 1)).take i := by rw [h3]
   rw [List.take_take, List.take_take, Nat.min_eq_left (by omega), List.take_set_of_le (Nat.le_refl _)] at this
   exact this
  ·exact Kept.then_ (Kept.of_grown h1.2 (Kept.refl W (fun k => k = g)) (fun k hk => .inl (Option.some.inj hk).symm)) h4 (fun k hk => .inl hk)
theorem I_setCells {I : World → Prop} {g : Nat} (h : ∀ W off u, I W → I (W.setCell ⟨g, off, none⟩ u)) : ∀ (vs : List Value) (o : Nat) (W : World), I W → I (W.setCells g o vs)
 | [], _, _, hi => hi
 | v :: r, o, W, hi => I_setCells h r (o + 1) _ (h W o v hi)
set_option maxHeartbeats 8000000 in
set_option maxRecDepth 100000 in
/-- What a call of DeleteFunc does with a row of the caller's own, for a function value that answers p at each element in all worlds of which I holds, and only makes memory. -/
theorem slices_DeleteFunc_int_int.gen (F : Nat) (fi cp : Array Value) (I : World → Prop) (p : Int → Bool) (base : Nat) (ok : Nat → Prop) (v : Value) (xs : List Int) (w : World) (hHas : Own.Has Try.prog F)
  (hI : ∀ W W', I W → Below W.heap.size W W' → I W') (hIs : ∀ g, v.ownBlock = some g → ∀ W off u, I W → I (W.setCell ⟨g, off, none⟩ u))
  (hF : ∀ x ∈ xs, ∀ W, I W → Calls Try.prog F (fi ++ #[.int .i64 x] ++ cp) W fun e W' => e = .returned (.bool (p x)) ∧ Below W.heap.size W W')
  (hr : Kd.R (Kd.int .i64) 3 w base ok v xs) (hl : xs.length ≤ 1048576) (hi : I w) :
  Calls Try.prog 154 #[v, .func (.func F) fi cp] w fun e w' => ∃ v' : Value, e = .returned v' ∧ Kd.R (Kd.int .i64) 3 w' base ok v' (xs.filter fun x => !p x) ∧ I w' ∧ Kept w w' (fun k => some k = v.ownBlock) := by
 have hIF := fun (A : Option Addr) (c : Nat) (hr' : Kd.C (Kd.int .i64) w A xs.length xs) => slices_IndexFunc_int_int.gen F fi cp I p A c xs w hHas hI hF hr' hl hi
 have HIF := Aside0.mk hIF
 clear hIF
 obtain ⟨A, c, rfl⟩ := Kd.R_slice hr
 have hrd := Kd.R_reads' hr
 have HRD := Aside0.mk hrd
 clear hrd
 have HO := Aside0.mk hr
 have HF := Aside0.mk hF
 have HI := Aside0.mk hI
 have HIs := Aside0.mk hIs
 have HHas := Aside0.mk hHas
 clear hF hI hIs hHas hr
 have HIw := Aside0.mk hi
 clear hi
 rcases idx_cases p xs with ⟨e1, h0⟩ | ⟨k, hk, e1, h1, h0⟩
 ·have HX := Aside0.mk (show idxF p xs = -1 from e1)
  have HN := Aside0.mk (filter_none p xs h0)
  clear e1 h0
  go_enter Try.func154, Try.ntmps154
  go_wp2_with (first | (go_at_call 166; refine (HIF.out A c HRD.out.2.2).mono ?_; rintro e w1 ⟨he_, hb, hi1⟩; rw [HX.out] at he_; subst he_; have n0_ := Aside0.mk (Kd.R_below HO.out hb); have n1_ := Aside0.mk hi1; have n2_ := Aside0.mk (Kept.of_below hb (fun k => some k = (Value.slice A xs.length c).ownBlock)); clear HO HIw hb hi1; have HO := n0_; have HIw := n1_; have HK := n2_; clear n0_ n1_ n2_))
  go_ret
  exact ⟨_, rfl, by rw [HN.out]; exact HO.out, HIw.out, HK.out⟩
 ·have HX := Aside0.mk (show idxF p xs = (k : Int) from e1)
  have HS := Aside0.mk (DelInv.start hk h1 h0)
  obtain ⟨g, cap, ev, _, _, _⟩ := Kd.R_form HO.out (by omega)
  injection ev with ea _ ec
  subst ea ec
  have hne1 : ((k : Int) == -1) = false := beq_eq_false_iff_ne.2 (by omega)
  clear e1 h1 h0
  have hcap : xs.length ≤ c := HRD.out.2.1
  go_enter Try.func154, Try.ntmps154
  go_wp2_with (first | (go_at_call 166; refine (HIF.out _ c HRD.out.2.2).mono ?_; rintro e w1 ⟨he_, hb, hi1⟩; rw [HX.out] at he_; subst he_; have n0_ := Aside0.mk (Kd.R_below HO.out hb); have n1_ := Aside0.mk hi1; have n2_ := Aside0.mk (Kept.of_below hb (fun k => k = g)); clear HO HIw hb hi1; have HO := n0_; have HIw := n1_; have HK := n2_; clear n0_ n1_ n2_))
  go_loopg [5, 6] xs.length (fun kq v5 v6 wr => ∃ (i j : Nat) (dk : List Int), v5 = .int .i64 i ∧ v6 = .int .i64 j ∧ j ≤ xs.length ∧ xs.length - j ≤ kq ∧ Aside0 (DelInv p xs i j dk) ∧ Aside0 (Kd.R (Kd.int .i64) 3 wr base ok (.slice (some ⟨g, 0, none⟩) xs.length c) dk) ∧ Aside0 (I wr) ∧ Aside0 (Kept w wr (fun k => k = g)))
  case atStart => exact ⟨k, k + 1, xs, rfl, by go_num, by omega, by omega, HS, HO, HIw, HK⟩
  case round =>
   clear HO HIw HK
   obtain ⟨i, j, dk, rfl, rfl, hjd, hgg, HV, HO, HIw, HK⟩ := hrel
   have hij := HV.out.1
   by_cases hlt : j < xs.length
   ·have hltz : (j : Int) < (xs.length : Int) := by omega
    have hgl := fun (W : World) (h : Kd.R (Kd.int .i64) 3 W base ok (.slice (some ⟨g, 0, none⟩) xs.length c) dk) (m : Nat) (hm : m < xs.length) => Kd.R_celln 0 h (m : Int) (by omega) (by omega)
    have HGL := Aside0.mk hgl
    clear hgl
    have hx : wr.cell? ⟨g, j, none⟩ = some (.int .i64 (rd xs j)) := by
     have := (HGL.out wr HO.out j hlt).1
     rw [Int.toNat_natCast] at this
     rw [← HV.out.2.2.2.2 j (Nat.le_refl _) hlt]
     exact this
    have HM := Aside0.mk (idx_mem xs j hlt)
    obtain ⟨u, hu⟩ : ∃ u, rd xs j = u := ⟨_, rfl⟩
    rw [hu] at hx HM
    have HU := Aside0.mk hu
    clear hu
    obtain ⟨b, hb0⟩ : ∃ b, p u = b := ⟨_, rfl⟩
    have HPB := Aside0.mk hb0
    clear hb0
    cases b with
    | true =>
     go_wp2_with (first | ((with_reducible refine gate_dst (N := 28) rfl ?_); refine Own.goesC_ (some 28) rfl rfl HHas.out #[.int .i64 u] rfl rfl (by (try simp only [List.map_toArray, List.map_cons, List.map_nil]); first | done | rfl) ?_; refine (HF.out _ HM.out _ HIw.out).mono ?_; rintro e w12 ⟨he_, hb⟩; rw [HPB.out] at he_; subst he_; refine ⟨_, rfl, ?_⟩; have n0_ := Aside0.mk (Kd.R_below HO.out hb); have n1_ := Aside0.mk (HI.out _ _ HIw.out hb); have n2_ := Aside0.mk (Kept.below HK.out hb); clear HO HIw HK hb; have HO := n0_; have HIw := n1_; have HK := n2_; clear n0_ n1_ n2_))
     go_roundg (xs.length - (j + 1))
     case measure => omega
     case rel => exact ⟨i, j + 1, dk, rfl, by go_num, by omega, Nat.le_refl _, ⟨HV.out.skip hlt (by rw [HU.out]; exact HPB.out)⟩, HO, HIw, HK⟩
    | false =>
     have hin : i < xs.length := by omega
     go_wp2_with (first | ((with_reducible refine gate_dst (N := 28) rfl ?_); refine Own.goesC_ (some 28) rfl rfl HHas.out #[.int .i64 u] rfl rfl (by (try simp only [List.map_toArray, List.map_cons, List.map_nil]); first | done | rfl) ?_; refine (HF.out _ HM.out _ HIw.out).mono ?_; rintro e w12 ⟨he_, hb⟩; rw [HPB.out] at he_; subst he_; refine ⟨_, rfl, ?_⟩; have n0_ := Aside0.mk (Kd.R_below HO.out hb); have n1_ := Aside0.mk (HI.out _ _ HIw.out hb); have n2_ := Aside0.mk (Kept.below HK.out hb); clear HO HIw HK hb; have HO := n0_; have HIw := n1_; have HK := n2_; clear n0_ n1_ n2_; have hxi : w12.cell? ⟨g, i, none⟩ = some (.int .i64 (rd dk i)) := (HGL.out w12 HO.out i hin).1; have hfi : w12.frozen? ⟨g, i, none⟩ = false := (HGL.out w12 HO.out i hin).2; have HP7 := Aside0.mk (Kd.R_putg HO.out (i : Int) u)))
     go_roundg (xs.length - (j + 1))
     case measure => omega
     case rel => exact ⟨i + 1, j + 1, dk.set i u, by go_num, by go_num, by omega, Nat.le_refl _, ⟨by have := HV.out.keep hlt (by rw [HU.out]; exact HPB.out); rwa [HU.out] at this⟩, ⟨HP7.out.1⟩, ⟨HIs.out g rfl _ _ _ HIw.out⟩, ⟨Kept.of_grown HP7.out.2 HK.out (fun k hk => .inl (Option.some.inj hk).symm)⟩⟩
   ·obtain rfl : j = xs.length := by omega
    have hltz : ¬ (xs.length : Int) < (xs.length : Int) := by omega
    have hgl := fun (m : Nat) (hm : m < xs.length) => Kd.R_celln 0 HO.out (m : Int) (by omega) (by omega)
    have hcl : ∀ ty, (Builtin.clear_ #[26] ty #[.slice (some ⟨g, i, none⟩) (xs.length - i) (c - i)]).run Try.prog wr = .ok (.tuple #[]) (wr.setCells g i (List.replicate (xs.length - i) (.int .i64 0))) :=
     fun ty => Lib.run_clear_slice wr _ _ ty _ Try.underlying26 (fun w => by kernel_rfl) rfl rfl g i _ _ (by omega) (fun t ht => by have := (hgl (i + t) (by omega)).1; rw [Int.toNat_natCast] at this; rw [this]; rfl) (fun t ht => by have := (hgl (i + t) (by omega)).2; rw [Int.toNat_natCast] at this; exact this)
    obtain ⟨dk', hR, ht, hK⟩ := R_clear (xs.length - i) i wr dk HO.out (by omega)
    have HR' := Aside0.mk hR
    have HT' := Aside0.mk ht
    have HK' := Aside0.mk hK
    clear hgl hR ht hK
    go_wp2
    go_ret
    have hV := HV.out
    have hlen : i = (xs.filter fun x => !p x).length := by
     have := congrArg List.length hV.2.2.2.1
     rw [List.length_take, List.take_length, hV.2.2.1] at this
     omega
    refine ⟨_, rfl, ?_, I_setCells (HIs.out g rfl) _ _ _ HIw.out, Kept.mono (HK.out.then_ HK'.out (fun k hk => .inl hk)) (fun k hk => by rw [hk]; rfl)⟩
    have := Kd.R_take HR'.out (m := i) (by have := (Kd.R_reads' HR'.out).1; omega)
    rw [HT'.out, hV.2.2.2.1, List.take_length] at this
    exact this

end Go.Proofs.Ytmbgpbanbffchaa.P
