/- Functions of the program as Lean functions, and that each call comes to what they say; written by a program of this session; no conditions beyond those that each theorem names. -/
import Derived.Test.YtmbgpbanbffchaaPx0
import Derived.Test.YtmbgpbanbffchaaPxImplNetCorners1
import Derived.Test.YtmbgpbanbffchaaPxNetA
import Derived.Test.YtmbgpbanbffchaaPxSlicesDeleteFuncIntInt
namespace Go.Proofs.Ytmbgpbanbffchaa.P
open Go.RowKit Go.Proofs.YtmbgpbanbffchaaW.PrintWords Go.Proofs.YtmbgpbanbffchaaW.PrintLast Go.Proofs.YtmbgpbanbffchaaW.PrintMore
attribute [local go_sem] max2_int min2_int max_two min_two max_three min_three max_four min_four   -- for this text's walks alone
set_option linter.unusedVariables false
set_option linter.unusedSimpArgs false

/-! ### impl_net_corners: function 123 -/
/-- The nodes of a set that have a cover in it. -/
def impl_net_corners.f (k : Nat) (near : List Int) (set : Int) : Option (List Int) := (impl_setOf.f k set).bind fun L => if L.length ≤ 1048576 ∧ (L.all fun x => (impl_net_corners_1.f k x near set).isSome) = true then some (L.filter fun x => !(impl_net_corners_1.f k x near set).getD false) else none
theorem impl_net_corners.mono : ∀ a0 a1 k, LeO (impl_net_corners.f k a0 a1) (impl_net_corners.f (k + 1) a0 a1) := by
 intro a0 a1 k
 unfold impl_net_corners.f
 refine LeO.bind (impl_setOf.mono _ _) (fun L => ?_)
 intro r hr
 by_cases hc : L.length ≤ 1048576 ∧ (L.all fun x => (impl_net_corners_1.f k x a0 a1).isSome) = true
 ·rw [if_pos hc] at hr
  have hs : ∀ x ∈ L, ∃ b, impl_net_corners_1.f k x a0 a1 = some b ∧ impl_net_corners_1.f (k + 1) x a0 a1 = some b := fun x hx => by
   obtain ⟨b, hb⟩ := Option.isSome_iff_exists.1 (List.all_eq_true.1 hc.2 x hx)
   exact ⟨b, hb, impl_net_corners_1.mono _ _ _ _ _ hb⟩
  have e1 : (L.all fun x => (impl_net_corners_1.f (k + 1) x a0 a1).isSome) = true := List.all_eq_true.2 (fun x hx => by
   obtain ⟨b, _, h2⟩ := hs x hx
   rw [h2]
   rfl)
  have e2 : (L.filter fun x => !(impl_net_corners_1.f (k + 1) x a0 a1).getD false) = L.filter fun x => !(impl_net_corners_1.f k x a0 a1).getD false := List.filter_congr (fun x hx => by
   obtain ⟨b, h1, h2⟩ := hs x hx
   rw [h1, h2])
  rw [if_pos ⟨hc.1, e1⟩, e2]
  exact hr
 ·rw [if_neg hc] at hr
  cases hr
set_option maxHeartbeats 8000000 in
set_option maxRecDepth 100000 in
theorem impl_net_corners.calls (k : Nat) (A0_0 : Option Addr) (c0_0 : Nat) (l0_0 : List Int) (a1 : Int) (r : List Int) (w : World) (hr0_0 : Kd.C (Kd.int .i64) w A0_0 l0_0.length l0_0) (hc0_0 : l0_0.length ≤ c0_0) (h : impl_net_corners.f k l0_0 a1 = some r) :
  Calls Try.prog 123 #[.agg #[.slice A0_0 l0_0.length c0_0], .int .i64 a1] w fun e w' => ∃ v0_ : Value, e = .returned (v0_) ∧ Kd.R (Kd.int .i64) 3 w' w.heap.size (fun _ => True) v0_ r ∧ Below w.heap.size w w' := by
 have hu63 := Try.underlying72
 have HR := Aside0.mk hr0_0
 have HC := Aside0.mk hc0_0
 clear hr0_0 hc0_0
 have HB := Aside0.mk (Below.refl w.heap.size w)
 unfold impl_net_corners.f at h
 obtain ⟨L, hL, h⟩ := Option.bind_eq_some_iff.mp h
 have HS := Aside0.mk hL
 clear hL
 by_cases hc : L.length ≤ 1048576 ∧ (L.all fun x => (impl_net_corners_1.f k x l0_0 a1).isSome) = true
 ·rw [if_pos hc] at h
  have HD := Aside0.mk (Option.some.inj h)
  have HA := Aside0.mk hc
  clear h hc
  have hclo : ∀ x ∈ L, ∀ (gb1 gb2 : Nat) (W : World), Below w.heap.size w W → W.heap[gb1]? = some (.cells #[.slice A0_0 l0_0.length c0_0] 72 (0, 0)) → W.heap[gb2]? = some (.cells #[.int .i64 a1] 3 (0, 0)) →
    Calls Try.prog 155 (#[] ++ #[.int .i64 x] ++ #[.pointer (some ⟨gb1, 0, none⟩), .pointer (some ⟨gb2, 0, none⟩)]) W fun e W' => e = .returned (.bool ((impl_net_corners_1.f k x l0_0 a1).getD false)) ∧ Below W.heap.size W W' := fun x hx gb1 gb2 W hb h1 h2 => by
   obtain ⟨b, hb'⟩ := Option.isSome_iff_exists.1 (List.all_eq_true.1 HA.out.2 x hx)
   rw [hb']
   exact impl_net_corners_1.calls k x gb1 A0_0 c0_0 l0_0 gb2 a1 b W (Kd.C_below HR.out hb) HC.out h1 h2 hb'
  have HCL := Aside0.mk hclo
  clear hclo
  go_enter Try.func123, Try.ntmps123
  go_wp2_with (first | ((with_reducible refine gate_dst (N := 2) rfl ?_); refine box_event ?hg (N := 2) ?hd (cs := #[.slice A0_0 l0_0.length c0_0]) (t := 72) ?hr ?_; (case hd => rfl); (case hg => rfl); (case hr => first | (go_simp; done) | (go_simp; rfl)); intro gb1 hg w1 hbox hb; have n0_ := Aside0.mk (below_step HB.out hb); have n1_ := Aside0.mk (hbox); have n2_ := Aside0.mk ((by rw [hg]; exact below_size HB.out) : w.heap.size ≤ gb1); clear HB; have HB := n0_; have BK1 := n1_; have GE1 := n2_; clear n0_ n1_ n2_; clear hb hbox hg) | ((with_reducible refine gate_dst (N := 3) rfl ?_); refine box_event ?hg (N := 3) ?hd (cs := #[.int .i64 a1]) (t := 3) ?hr ?_; (case hd => rfl); (case hg => rfl); (case hr => first | (go_simp; done) | (go_simp; rfl)); intro gb2 hg w2 hbox hb; have n0_ := Aside0.mk (below_step HB.out hb); have n1_ := Aside0.mk (hbox); have n2_ := Aside0.mk ((by rw [hg]; exact below_size HB.out) : w.heap.size ≤ gb2); have n3_ := Aside0.mk (blk_below (g := gb1) (o := .cells #[.slice A0_0 l0_0.length c0_0] 72 (0, 0)) BK1.out hb); clear HB BK1; have HB := n0_; have BK2 := n1_; have GE2 := n2_; have BK1 := n3_; clear n0_ n1_ n2_ n3_; clear hb hbox hg; have hcz : w2.cell? ⟨gb2, 0, none⟩ = some (.int .i64 a1) := (blk_cell BK2.out 0).trans rfl; have hfz := blk_frozen BK2.out 0) | ((with_reducible refine gate_callee (f := 104) rfl ?_); refine goesL_ (some 6) rfl rfl Try.func104 (by kernel_rfl) rfl #[.int .i64 a1] rfl (by (try simp only [List.map_toArray, List.map_cons, List.map_nil]); first | done | rfl) ?_; (with_reducible refine (impl_setOf.calls k a1 L _ HS.out).mono ?_); rintro e w3 ⟨v1, rfl, ho0, hb⟩; refine ⟨_, rfl, ?_⟩; have n0_ := Aside0.mk (Kd.R_lower ho0 (below_size HB.out)); have n1_ := Aside0.mk (below_step HB.out hb); have n2_ := Aside0.mk (blk_below (g := gb1) (o := .cells #[.slice A0_0 l0_0.length c0_0] 72 (0, 0)) BK1.out hb); have n3_ := Aside0.mk (blk_below (g := gb2) (o := .cells #[.int .i64 a1] 3 (0, 0)) BK2.out hb); have n4_ := Aside0.mk (fun g (hg : v1.ownBlock = some g) => (⟨fun e => Nat.not_lt.2 (Kd.R_base ho0 g hg) (e ▸ blk_lt BK1.out), fun e => Nat.not_lt.2 (Kd.R_base ho0 g hg) (e ▸ blk_lt BK2.out)⟩ : gb1 ≠ g ∧ gb2 ≠ g)); clear HB BK1 BK2; have HO := n0_; have HB := n1_; have BK1 := n2_; have BK2 := n3_; have HNE := n4_; clear n0_ n1_ n2_ n3_ n4_; clear hb ho0) | ((with_reducible refine gate_callee (f := 154) rfl ?_); refine goesL_ (some 8) rfl rfl Try.func154 (by kernel_rfl) rfl #[v1, .func (.func 155) #[] #[.pointer (some ⟨gb1, 0, none⟩), .pointer (some ⟨gb2, 0, none⟩)]] rfl (by (try simp only [List.map_toArray, List.map_cons, List.map_nil]); first | done | rfl) ?_; (refine (slices_DeleteFunc_int_int.gen 155 #[] #[.pointer (some ⟨gb1, 0, none⟩), .pointer (some ⟨gb2, 0, none⟩)] (fun W => Below w.heap.size w W ∧ W.heap[gb1]? = some (.cells #[.slice A0_0 l0_0.length c0_0] 72 (0, 0)) ∧ W.heap[gb2]? = some (.cells #[.int .i64 a1] 3 (0, 0))) (fun x => (impl_net_corners_1.f k x l0_0 a1).getD false) w.heap.size (fun _ => True) v1 L w3 ⟨_, Try.func155, by kernel_rfl, rfl⟩ (fun W W' hi hb => ⟨below_step hi.1 hb, blk_below hi.2.1 hb, blk_below hi.2.2 hb⟩) (fun g hg W off u hi => ⟨below_set hi.1 (Kd.R_base HO.out g hg), blk_far hi.2.1 (HNE.out g hg).1 _, blk_far hi.2.2 (HNE.out g hg).2 _⟩) (fun x hx W hi => HCL.out x hx gb1 gb2 W hi.1 hi.2.1 hi.2.2) HO.out HA.out.1 ⟨HB.out, BK1.out, BK2.out⟩).mono ?_); rintro e w4 ⟨v2, rfl, ho0, hi, hk⟩; refine ⟨_, rfl, ?_⟩; have n0_ := Aside0.mk ho0; have n1_ := Aside0.mk hi.1; clear HB BK1 BK2 HO; have HO := n0_; have HB := n1_; clear n0_ n1_; clear ho0 hi hk))
  go_ret
  exact ⟨_, rfl, by rw [← HD.out]; exact HO.out, HB.out⟩
 ·rw [if_neg hc] at h
  cases h

end Go.Proofs.Ytmbgpbanbffchaa.P
