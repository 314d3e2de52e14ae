/- Functions of the program as Lean functions, that each call comes to what they say, and what holds of them; part 3 of 15; no conditions beyond those that each theorem names. -/
import Derived.Test.YtcjddikalgnhpaaK1
import Derived.Test.YtcjddikalgnhpaaK2
namespace Go.Proofs.Ytcjddikalgnhpaa.P
open Go.RowKit Go.Proofs.YtcjddikalgnhpaaW.PrintWords Go.Proofs.YtcjddikalgnhpaaW.PrintLast Go.Proofs.YtcjddikalgnhpaaW.PrintMore
attribute [local go_sem] max2_int min2_int max_two min_two max_three min_three max_four min_four   -- for this text's walks alone
set_option linter.unusedVariables false
set_option linter.unusedSimpArgs false
/-! ### impl_productOf_1: function 193 -/
theorem neL {W : World} {g g' : Nat} {o : Obj} (hb : W.heap[g]? = some o) (hg : g' = W.heap.size) : Aside0 (g ≠ g') := ⟨by rw [hg]; exact Nat.ne_of_lt (blk_lt hb)⟩
theorem neR {W : World} {g g' : Nat} {o : Obj} (hb : W.heap[g]? = some o) (hg : g' = W.heap.size) : Aside0 (g' ≠ g) := ⟨by rw [hg]; exact Nat.ne_of_gt (blk_lt hb)⟩
theorem geN {w W : World} {g' : Nat} (hb : Below w.heap.size w W) (hg : g' = W.heap.size) : Aside0 (w.heap.size ≤ g') := ⟨by rw [hg]; exact below_size hb⟩
/-- A call of a function value that has captured nothing. -/
theorem goesV_ {P : Program} {ops : Array Oper} {Q : Exit → Act → World → Prop} {oi : Oper} {N : Option Tmp} {a : Act} {w : World} {K : Act → World → Prop} {t : Operand} {f : FuncId} {fn : Func} {ar : Array Operand} {ts : Array TypeId} (hf : P.funcs[f]? = some fn) (hname : (fn.name == "runtime.NumGoroutine") = false) (hb : fn.body.isSome = true) (args : Array Value)
    (hw : Region.wanted oi (yielded ops a.tmps) = true) (hN : oi.dst = N) (hop : oi.op = .call { callee := .value t, args := ar, argTypes := ts }) (hv : a.eval t = .func (.func f) #[] #[]) (hargs : ar.map a.eval = args)
    (h : Calls P f args w fun e w' => ∃ v, e = .returned v ∧ K (a.put N v) w') : if Region.wanted oi (yielded ops a.tmps) = true then Oper.wp P oi a w K Q else K (a.put N undef) w := by
  refine call_ f args hw hN ?_ h; have he := enters_ hf hname hb args w
  unfold execOp
  simp only [hop, resolve, hv, Deferred.ofValue, hargs]
  simpa [invoke] using he
def impl_productOf_1C.f (a0 : Int) (a1 : Int) (a2_0 : Int) (a3_0 : Int) (l4_0 : List Int) (l5_0 : List Int) : Option (Bool) := if a2_0 = 0 then (none) else ((impl_net_has.f l4_0 (wrap64 (Int.tdiv a0 a2_0)) (wrap64 (Int.tdiv a1 a2_0))).bind fun t101 => ((impl_net_has.f l5_0 (Int.tmod a0 a2_0) (Int.tmod a1 a2_0)).bind fun t102 => ((impl_CartesianProduct_1.f ((wrap64 (Int.tdiv a0 a2_0)) == (wrap64 (Int.tdiv a1 a2_0))) t101 ((Int.tmod a0 a2_0) == (Int.tmod a1 a2_0)) t102).bind fun t103 => (some t103))))
def impl_productOf_1C.T1 : Bool × List (List Nat × List Nat) := (true, [([], []), ([], []), ([0, 1], [0, 1]), ([], []), ([], []), ([3, 4], [3, 4]), ([], []), ([], []), ([6, 7], [6, 7]), ([], []), ([], []), ([9, 10], [9, 10]), ([2, 0, 1, 2], [2]), ([5, 12, 0, 1, 2, 3, 4, 5, 12], [5]), ([8, 13, 0, 1, 2, 3, 4, 5, 6, 7, 8, 12, 13], [8]), ([11, 14, 0, 1, 2, 3, 4, 5, 6, 7, 8, 9, 10, 11, 12, 13, 14], [11])])
def impl_productOf_1C.B1 : List Nat := [0, 0, 3, 0, 0, 24, 0, 0, 192, 0, 0, 1536, 7, 4159, 12799, 32767]
theorem impl_productOf_1C.tab1 : rtab .any (opsOf Try.f193 1) = impl_productOf_1C.T1 := by kernel_rfl
theorem impl_productOf_1C.bits1 : waitsOk impl_productOf_1C.T1.2 impl_productOf_1C.B1 = true := by kernel_rfl
def impl_productOf_1C.T2 : Bool × List (List Nat × List Nat) := (true, [([], []), ([], []), ([], []), ([1, 2], [1, 2]), ([], []), ([], []), ([], []), ([4, 5, 6], [4, 5, 6]), ([], []), ([], []), ([8, 9], [8, 9]), ([], []), ([], []), ([], []), ([11, 12, 13, 7], [11, 12, 13]), ([0, 3, 7, 10, 14, 14], [0, 3, 7, 10, 14]), ([15, 15, 0, 1, 2, 3, 4, 5, 6, 7, 8, 9, 10, 11, 12, 13, 14, 15], [15])])
def impl_productOf_1C.B2 : List Nat := [0, 0, 0, 6, 0, 0, 0, 112, 0, 0, 768, 0, 0, 0, 14576, 32767, 65535]
theorem impl_productOf_1C.tab2 : rtab .any (opsOf Try.f193 2) = impl_productOf_1C.T2 := by kernel_rfl
theorem impl_productOf_1C.bits2 : waitsOk impl_productOf_1C.T2.2 impl_productOf_1C.B2 = true := by kernel_rfl
set_option maxHeartbeats 8000000 in
set_option maxRecDepth 100000 in
theorem impl_productOf_1C.calls (a0 : Int) (a1 : Int) (g2 : Nat) (a2_0 : Int) (g3 : Nat) (a3_0 : Int) (g4 : Nat) (A4_0 : Option Addr) (c4_0 : Nat) (l4_0 : List Int) (g5 : Nat) (A5_0 : Option Addr) (c5_0 : Nat) (l5_0 : List Int) (r : Bool) (w : World) (hr4_0 : Kd.C (Kd.int .i64) w A4_0 l4_0.length l4_0) (hc4_0 : l4_0.length ≤ c4_0) (hr5_0 : Kd.C (Kd.int .i64) w A5_0 l5_0.length l5_0) (hc5_0 : l5_0.length ≤ c5_0) (hb2 : w.heap[g2]? = some (.cells #[.int .i64 a2_0] 3 (0, 0))) (hb3 : w.heap[g3]? = some (.cells #[.func (.func 131) #[] #[]] 112 (0, 0))) (hb4 : w.heap[g4]? = some (.cells #[.slice A4_0 l4_0.length c4_0] 90 (0, 0))) (hb5 : w.heap[g5]? = some (.cells #[.slice A5_0 l5_0.length c5_0] 90 (0, 0))) (h : impl_productOf_1C.f a0 a1 a2_0 a3_0 l4_0 l5_0 = some r) :
  Calls Try.prog 193 #[.int .i64 a0, .int .i64 a1, .pointer (some ⟨g2, 0, none⟩), .pointer (some ⟨g3, 0, none⟩), .pointer (some ⟨g4, 0, none⟩), .pointer (some ⟨g5, 0, none⟩)] w fun e w' => e = .returned (.bool r) ∧ Below w.heap.size w w' := by
 have hu61 := Try.underlying90
 have HR4_0 := Aside0.mk hr4_0
 have HC4_0 := Aside0.mk hc4_0
 clear hr4_0 hc4_0
 have HR5_0 := Aside0.mk hr5_0
 have HC5_0 := Aside0.mk hc5_0
 clear hr5_0 hc5_0
 have BK2 := Aside0.mk hb2
 clear hb2
 have BK3 := Aside0.mk hb3
 clear hb3
 have NB3_2 := am (show g3 ≠ g2 from fun e_ => by have h_ := BK3.out; rw [e_] at h_; have h2_ := h_.symm.trans BK2.out; simp at h2_)
 have NB2_3 := am (show g2 ≠ g3 from fun e_ => by have h_ := BK2.out; rw [e_] at h_; have h2_ := h_.symm.trans BK3.out; simp at h2_)
 have BK4 := Aside0.mk hb4
 clear hb4
 have NB4_2 := am (show g4 ≠ g2 from fun e_ => by have h_ := BK4.out; rw [e_] at h_; have h2_ := h_.symm.trans BK2.out; simp at h2_)
 have NB2_4 := am (show g2 ≠ g4 from fun e_ => by have h_ := BK2.out; rw [e_] at h_; have h2_ := h_.symm.trans BK4.out; simp at h2_)
 have NB4_3 := am (show g4 ≠ g3 from fun e_ => by have h_ := BK4.out; rw [e_] at h_; have h2_ := h_.symm.trans BK3.out; simp at h2_)
 have NB3_4 := am (show g3 ≠ g4 from fun e_ => by have h_ := BK3.out; rw [e_] at h_; have h2_ := h_.symm.trans BK4.out; simp at h2_)
 have BK5 := Aside0.mk hb5
 clear hb5
 have NB5_2 := am (show g5 ≠ g2 from fun e_ => by have h_ := BK5.out; rw [e_] at h_; have h2_ := h_.symm.trans BK2.out; simp at h2_)
 have NB2_5 := am (show g2 ≠ g5 from fun e_ => by have h_ := BK2.out; rw [e_] at h_; have h2_ := h_.symm.trans BK5.out; simp at h2_)
 have NB5_3 := am (show g5 ≠ g3 from fun e_ => by have h_ := BK5.out; rw [e_] at h_; have h2_ := h_.symm.trans BK3.out; simp at h2_)
 have NB3_5 := am (show g3 ≠ g5 from fun e_ => by have h_ := BK3.out; rw [e_] at h_; have h2_ := h_.symm.trans BK5.out; simp at h2_)
 have HB := am (Below.refl w.heap.size w)
 have H : (if a2_0 = 0 then (none) else ((impl_net_has.f l4_0 (wrap64 (Int.tdiv a0 a2_0)) (wrap64 (Int.tdiv a1 a2_0))).bind fun t101 => ((impl_net_has.f l5_0 (Int.tmod a0 a2_0) (Int.tmod a1 a2_0)).bind fun t102 => ((impl_CartesianProduct_1.f ((wrap64 (Int.tdiv a0 a2_0)) == (wrap64 (Int.tdiv a1 a2_0))) t101 ((Int.tmod a0 a2_0) == (Int.tmod a1 a2_0)) t102).bind fun t103 => (some t103))))) = some r := h
 clear h
 obtain ⟨c7, H⟩ := ifz H
 have c7b0 := beq_eq_false_iff_ne.mpr c7; have c7b1 := bne_iff_ne.mpr c7; replace H := (ob H); obtain ⟨t101, A80, H⟩ := H; (try dsimp only at H); have A8 := Aside0.mk A80; clear A80; replace H := (ob H); obtain ⟨t102, A90, H⟩ := H; (try dsimp only at H); have A9 := Aside0.mk A90; clear A90; replace H := (ob H); obtain ⟨t103, A100, H⟩ := H; (try dsimp only at H); have A10 := Aside0.mk A100; clear A100; obtain rfl := Option.some.inj H
 go_enter Try.func193, Try.ntmps193
 try go_wp2
 replace BK2 := am (blk_drew BK2.out); replace BK3 := am (blk_drew BK3.out); replace BK4 := am (blk_drew BK4.out); replace BK5 := am (blk_drew BK5.out); replace HB := am (below_drew1 HB.out); refine start_ (n := 16) (S := fun w' => w'.cell? ⟨g2, 0, none⟩ = some (.int .i64 a2_0)) (ds := []) #[false, false, false, false, false, false, false, false, false, false, false, false, false, false, false, false] (by kernel_rfl) rfl rfl ((blk_cell BK2.out 0).trans rfl) (fun hHeld => ?_); refine with_tabW impl_productOf_1C.tab1 impl_productOf_1C.bits1 (fun HT_ HW_ => ?_); generalize w.drew = w11 at BK2 BK3 BK4 BK5 HB hHeld ⊢; refine pq 0 13 rfl rfl HT_ ?_; refine pq 3 16 rfl rfl HT_ ?_; refine pq 6 19 rfl rfl HT_ ?_; refine pq 9 22 rfl rfl HT_ ?_; refine take_ (i := 1) (N := some 14) (v := ?_) (a' := ?_) #[true, true, false, true, false, false, true, false, false, true, false, false, false, false, false, false] rfl rfl (take_ofW HT_.out HW_.out (by kernel_rfl)) (fun _ _ _ h => h) (Or.inl ⟨by rfl, ?_⟩) hHeld ?_ ?_
 rotate_left
 ·intro w' s0
  go_simp
  with_reducible rfl
 rotate_left
 ·simp only [Act.put, List.setIfInBounds_toArray, List.set_cons_zero, List.set_cons_succ, i64_w, i32_w]
  rfl
 refine pq 2 15 rfl rfl HT_ ?_; refine pq 12 9 rfl rfl HT_ ?_; refine take_ (i := 4) (N := some 17) (v := ?_) (a' := ?_) #[true, true, true, true, true, false, true, false, false, true, false, false, true, false, false, false] rfl rfl (take_ofW HT_.out HW_.out (by kernel_rfl)) (fun _ _ _ h => h) (Or.inl ⟨by rfl, ?_⟩) hHeld ?_ ?_
 rotate_left
 ·intro w' s0
  go_simp
  with_reducible rfl
 rotate_left
 ·simp only [Act.put, List.setIfInBounds_toArray, List.set_cons_zero, List.set_cons_succ, i64_w, i32_w]
  rfl
 refine pq 5 18 rfl rfl HT_ ?_; refine pq 13 10 rfl rfl HT_ ?_; refine take_ (i := 7) (N := some 20) (v := ?_) (a' := ?_) #[true, true, true, true, true, true, true, true, false, true, false, false, true, true, false, false] rfl rfl (take_ofW HT_.out HW_.out (by kernel_rfl)) (fun _ _ _ h => h) (Or.inl ⟨by rfl, ?_⟩) hHeld ?_ ?_
 rotate_left
 ·intro w' s0
  go_simp
  with_reducible rfl
 rotate_left
 ·simp only [Act.put, List.setIfInBounds_toArray, List.set_cons_zero, List.set_cons_succ, i64_w, i32_w]
  rfl
 refine pq 8 21 rfl rfl HT_ ?_; refine pq 14 11 rfl rfl HT_ ?_; refine take_ (i := 10) (N := some 23) (v := ?_) (a' := ?_) #[true, true, true, true, true, true, true, true, true, true, true, false, true, true, true, false] rfl rfl (take_ofW HT_.out HW_.out (by kernel_rfl)) (fun _ _ _ h => h) (Or.inl ⟨by rfl, ?_⟩) hHeld ?_ ?_
 rotate_left
 ·intro w' s0
  go_simp
  with_reducible rfl
 rotate_left
 ·simp only [Act.put, List.setIfInBounds_toArray, List.set_cons_zero, List.set_cons_succ, i64_w, i32_w]
  rfl
 refine pq 11 24 rfl rfl HT_ ?_; refine pq 15 12 rfl rfl HT_ ?_; refine done_ (done_of HT_.out (by kernel_rfl)) ?_
 try go_wp2
 replace BK2 := am (blk_drew BK2.out); replace BK3 := am (blk_drew BK3.out); replace BK4 := am (blk_drew BK4.out); replace BK5 := am (blk_drew BK5.out); replace HB := am (below_drew1 HB.out); refine start_ (n := 17) (S := fun w' => w'.cell? ⟨g3, 0, none⟩ = some (.func (.func 131) #[] #[]) ∧ w'.cell? ⟨g4, 0, none⟩ = some (.slice A4_0 l4_0.length c4_0) ∧ w'.cell? ⟨g5, 0, none⟩ = some (.slice A5_0 l5_0.length c5_0)) (ds := []) #[false, false, false, false, false, false, false, false, false, false, false, false, false, false, false, false, false] (by kernel_rfl) rfl rfl ⟨(blk_cell BK3.out 0).trans rfl, (blk_cell BK4.out 0).trans rfl, (blk_cell BK5.out 0).trans rfl⟩ (fun hHeld => ?_); refine with_tabW impl_productOf_1C.tab2 impl_productOf_1C.bits2 (fun HT_ HW_ => ?_); generalize w11.drew = w12 at BK2 BK3 BK4 BK5 HB hHeld ⊢; refine pq 1 26 rfl rfl HT_ ?_; refine pq 2 27 rfl rfl HT_ ?_; refine pq 3 28 rfl rfl HT_ ?_; refine pq 5 30 rfl rfl HT_ ?_; refine pq 6 31 rfl rfl HT_ ?_; refine pq 8 33 rfl rfl HT_ ?_; refine pq 9 34 rfl rfl HT_ ?_; refine pq 10 35 rfl rfl HT_ ?_; refine pq 12 37 rfl rfl HT_ ?_; refine pq 13 38 rfl rfl HT_ ?_; refine tq3 0 25 rfl rfl HT_ HW_ hHeld ?_; refine tq3 4 29 rfl rfl HT_ HW_ hHeld ?_; refine tq3 11 36 rfl rfl HT_ HW_ hHeld ?_; refine oq 7 32 rfl rfl HT_ (fun K hK => ?_); refine goes_ Try.func136 (by kernel_rfl) rfl #[.agg #[.slice A4_0 l4_0.length c4_0], .int .i64 (wrap64 (Int.tdiv a0 a2_0)), .int .i64 (wrap64 (Int.tdiv a1 a2_0))] (by rfl) rfl rfl Q6 ?_
 with_reducible refine (impl_net_has.calls _ _ l4_0 (wrap64 (Int.tdiv a0 a2_0)) (wrap64 (Int.tdiv a1 a2_0)) t101 _ ?side1 ?side2 A8.out).mono ?_
 (case side1 => exact (Q11 HR4_0 HB))
 (case side2 => exact HC4_0.out)
 rintro e w13 ⟨rfl, hb⟩; refine ⟨_, rfl, ?_⟩; replace BK2 := bb BK2 hb; replace BK3 := bb BK3 hb; replace BK4 := bb BK4 hb; replace BK5 := bb BK5 hb; replace HB := bs HB hb; (try clear hb); refine hK.out _ _ ⟨(blk_cell BK3.out 0).trans rfl, (blk_cell BK4.out 0).trans rfl, (blk_cell BK5.out 0).trans rfl⟩ (fun hHeld => ?_); clear hK K; refine nz ?_
 refine oq 14 39 rfl rfl HT_ (fun K hK => ?_); refine goes_ Try.func136 (by kernel_rfl) rfl #[.agg #[.slice A5_0 l5_0.length c5_0], .int .i64 (Int.tmod a0 a2_0), .int .i64 (Int.tmod a1 a2_0)] (by rfl) rfl rfl Q6 ?_
 with_reducible refine (impl_net_has.calls _ _ l5_0 (Int.tmod a0 a2_0) (Int.tmod a1 a2_0) t102 _ ?side1 ?side2 A9.out).mono ?_
 (case side1 => exact (Q11 HR5_0 HB))
 (case side2 => exact HC5_0.out)
 rintro e w14 ⟨rfl, hb⟩; refine ⟨_, rfl, ?_⟩; replace BK2 := bb BK2 hb; replace BK3 := bb BK3 hb; replace BK4 := bb BK4 hb; replace BK5 := bb BK5 hb; replace HB := bs HB hb; (try clear hb); refine hK.out _ _ ⟨(blk_cell BK3.out 0).trans rfl, (blk_cell BK4.out 0).trans rfl, (blk_cell BK5.out 0).trans rfl⟩ (fun hHeld => ?_); clear hK K; refine nz ?_
 refine oq 15 40 rfl rfl HT_ (fun K hK => ?_); refine goesV_ Try.func131 (by kernel_rfl) rfl #[.bool ((wrap64 (Int.tdiv a0 a2_0)) == (wrap64 (Int.tdiv a1 a2_0))), .bool t101, .bool ((Int.tmod a0 a2_0) == (Int.tmod a1 a2_0)), .bool t102] (by rfl) rfl rfl (by rfl) Q6 ?_
 with_reducible refine (impl_CartesianProduct_1.calls ((wrap64 (Int.tdiv a0 a2_0)) == (wrap64 (Int.tdiv a1 a2_0))) t101 ((Int.tmod a0 a2_0) == (Int.tmod a1 a2_0)) t102 t103 _ A10.out).mono ?_
 rintro e w' ⟨rfl, ⟨nd, rfl⟩⟩; refine ⟨_, rfl, ?_⟩; refine hK.out _ _ ⟨(blk_cell BK3.out 0).trans rfl, (blk_cell BK4.out 0).trans rfl, (blk_cell BK5.out 0).trans rfl⟩ (fun hHeld => ?_); clear hK K; refine nz ?_
 refine pq 16 8 rfl rfl HT_ ?_; refine done_ (done_of HT_.out (by kernel_rfl)) ?_
 try go_wp2
 go_ret
 exact ⟨Q19, Q1 HB⟩
def impl_productOf_1S.f (a0 : Int) (a1 : Int) (a2_0 : Int) (a3_0 : Int) (l4_0 : List Int) (l5_0 : List Int) : Option (Bool) := if a2_0 = 0 then (none) else ((impl_net_has.f l4_0 (wrap64 (Int.tdiv a0 a2_0)) (wrap64 (Int.tdiv a1 a2_0))).bind fun t101 => ((impl_net_has.f l5_0 (Int.tmod a0 a2_0) (Int.tmod a1 a2_0)).bind fun t102 => ((impl_StrongProduct_1.f ((wrap64 (Int.tdiv a0 a2_0)) == (wrap64 (Int.tdiv a1 a2_0))) t101 ((Int.tmod a0 a2_0) == (Int.tmod a1 a2_0)) t102).bind fun t103 => (some t103))))
def impl_productOf_1S.T1 : Bool × List (List Nat × List Nat) := (true, [([], []), ([], []), ([0, 1], [0, 1]), ([], []), ([], []), ([3, 4], [3, 4]), ([], []), ([], []), ([6, 7], [6, 7]), ([], []), ([], []), ([9, 10], [9, 10]), ([2, 0, 1, 2], [2]), ([5, 12, 0, 1, 2, 3, 4, 5, 12], [5]), ([8, 13, 0, 1, 2, 3, 4, 5, 6, 7, 8, 12, 13], [8]), ([11, 14, 0, 1, 2, 3, 4, 5, 6, 7, 8, 9, 10, 11, 12, 13, 14], [11])])
def impl_productOf_1S.B1 : List Nat := [0, 0, 3, 0, 0, 24, 0, 0, 192, 0, 0, 1536, 7, 4159, 12799, 32767]
theorem impl_productOf_1S.tab1 : rtab .any (opsOf Try.f193 1) = impl_productOf_1S.T1 := by kernel_rfl
theorem impl_productOf_1S.bits1 : waitsOk impl_productOf_1S.T1.2 impl_productOf_1S.B1 = true := by kernel_rfl
def impl_productOf_1S.T2 : Bool × List (List Nat × List Nat) := (true, [([], []), ([], []), ([], []), ([1, 2], [1, 2]), ([], []), ([], []), ([], []), ([4, 5, 6], [4, 5, 6]), ([], []), ([], []), ([8, 9], [8, 9]), ([], []), ([], []), ([], []), ([11, 12, 13, 7], [11, 12, 13]), ([0, 3, 7, 10, 14, 14], [0, 3, 7, 10, 14]), ([15, 15, 0, 1, 2, 3, 4, 5, 6, 7, 8, 9, 10, 11, 12, 13, 14, 15], [15])])
def impl_productOf_1S.B2 : List Nat := [0, 0, 0, 6, 0, 0, 0, 112, 0, 0, 768, 0, 0, 0, 14576, 32767, 65535]
theorem impl_productOf_1S.tab2 : rtab .any (opsOf Try.f193 2) = impl_productOf_1S.T2 := by kernel_rfl
theorem impl_productOf_1S.bits2 : waitsOk impl_productOf_1S.T2.2 impl_productOf_1S.B2 = true := by kernel_rfl
set_option maxHeartbeats 8000000 in
set_option maxRecDepth 100000 in
theorem impl_productOf_1S.calls (a0 : Int) (a1 : Int) (g2 : Nat) (a2_0 : Int) (g3 : Nat) (a3_0 : Int) (g4 : Nat) (A4_0 : Option Addr) (c4_0 : Nat) (l4_0 : List Int) (g5 : Nat) (A5_0 : Option Addr) (c5_0 : Nat) (l5_0 : List Int) (r : Bool) (w : World) (hr4_0 : Kd.C (Kd.int .i64) w A4_0 l4_0.length l4_0) (hc4_0 : l4_0.length ≤ c4_0) (hr5_0 : Kd.C (Kd.int .i64) w A5_0 l5_0.length l5_0) (hc5_0 : l5_0.length ≤ c5_0) (hb2 : w.heap[g2]? = some (.cells #[.int .i64 a2_0] 3 (0, 0))) (hb3 : w.heap[g3]? = some (.cells #[.func (.func 133) #[] #[]] 112 (0, 0))) (hb4 : w.heap[g4]? = some (.cells #[.slice A4_0 l4_0.length c4_0] 90 (0, 0))) (hb5 : w.heap[g5]? = some (.cells #[.slice A5_0 l5_0.length c5_0] 90 (0, 0))) (h : impl_productOf_1S.f a0 a1 a2_0 a3_0 l4_0 l5_0 = some r) :
  Calls Try.prog 193 #[.int .i64 a0, .int .i64 a1, .pointer (some ⟨g2, 0, none⟩), .pointer (some ⟨g3, 0, none⟩), .pointer (some ⟨g4, 0, none⟩), .pointer (some ⟨g5, 0, none⟩)] w fun e w' => e = .returned (.bool r) ∧ Below w.heap.size w w' := by
 have hu61 := Try.underlying90
 have HR4_0 := Aside0.mk hr4_0
 have HC4_0 := Aside0.mk hc4_0
 clear hr4_0 hc4_0
 have HR5_0 := Aside0.mk hr5_0
 have HC5_0 := Aside0.mk hc5_0
 clear hr5_0 hc5_0
 have BK2 := Aside0.mk hb2
 clear hb2
 have BK3 := Aside0.mk hb3
 clear hb3
 have NB3_2 := am (show g3 ≠ g2 from fun e_ => by have h_ := BK3.out; rw [e_] at h_; have h2_ := h_.symm.trans BK2.out; simp at h2_)
 have NB2_3 := am (show g2 ≠ g3 from fun e_ => by have h_ := BK2.out; rw [e_] at h_; have h2_ := h_.symm.trans BK3.out; simp at h2_)
 have BK4 := Aside0.mk hb4
 clear hb4
 have NB4_2 := am (show g4 ≠ g2 from fun e_ => by have h_ := BK4.out; rw [e_] at h_; have h2_ := h_.symm.trans BK2.out; simp at h2_)
 have NB2_4 := am (show g2 ≠ g4 from fun e_ => by have h_ := BK2.out; rw [e_] at h_; have h2_ := h_.symm.trans BK4.out; simp at h2_)
 have NB4_3 := am (show g4 ≠ g3 from fun e_ => by have h_ := BK4.out; rw [e_] at h_; have h2_ := h_.symm.trans BK3.out; simp at h2_)
 have NB3_4 := am (show g3 ≠ g4 from fun e_ => by have h_ := BK3.out; rw [e_] at h_; have h2_ := h_.symm.trans BK4.out; simp at h2_)
 have BK5 := Aside0.mk hb5
 clear hb5
 have NB5_2 := am (show g5 ≠ g2 from fun e_ => by have h_ := BK5.out; rw [e_] at h_; have h2_ := h_.symm.trans BK2.out; simp at h2_)
 have NB2_5 := am (show g2 ≠ g5 from fun e_ => by have h_ := BK2.out; rw [e_] at h_; have h2_ := h_.symm.trans BK5.out; simp at h2_)
 have NB5_3 := am (show g5 ≠ g3 from fun e_ => by have h_ := BK5.out; rw [e_] at h_; have h2_ := h_.symm.trans BK3.out; simp at h2_)
 have NB3_5 := am (show g3 ≠ g5 from fun e_ => by have h_ := BK3.out; rw [e_] at h_; have h2_ := h_.symm.trans BK5.out; simp at h2_)
 have HB := am (Below.refl w.heap.size w)
 have H : (if a2_0 = 0 then (none) else ((impl_net_has.f l4_0 (wrap64 (Int.tdiv a0 a2_0)) (wrap64 (Int.tdiv a1 a2_0))).bind fun t101 => ((impl_net_has.f l5_0 (Int.tmod a0 a2_0) (Int.tmod a1 a2_0)).bind fun t102 => ((impl_StrongProduct_1.f ((wrap64 (Int.tdiv a0 a2_0)) == (wrap64 (Int.tdiv a1 a2_0))) t101 ((Int.tmod a0 a2_0) == (Int.tmod a1 a2_0)) t102).bind fun t103 => (some t103))))) = some r := h
 clear h
 obtain ⟨c7, H⟩ := ifz H
 have c7b0 := beq_eq_false_iff_ne.mpr c7; have c7b1 := bne_iff_ne.mpr c7; replace H := (ob H); obtain ⟨t101, A80, H⟩ := H; (try dsimp only at H); have A8 := Aside0.mk A80; clear A80; replace H := (ob H); obtain ⟨t102, A90, H⟩ := H; (try dsimp only at H); have A9 := Aside0.mk A90; clear A90; replace H := (ob H); obtain ⟨t103, A100, H⟩ := H; (try dsimp only at H); have A10 := Aside0.mk A100; clear A100; obtain rfl := Option.some.inj H
 go_enter Try.func193, Try.ntmps193
 try go_wp2
 replace BK2 := am (blk_drew BK2.out); replace BK3 := am (blk_drew BK3.out); replace BK4 := am (blk_drew BK4.out); replace BK5 := am (blk_drew BK5.out); replace HB := am (below_drew1 HB.out); refine start_ (n := 16) (S := fun w' => w'.cell? ⟨g2, 0, none⟩ = some (.int .i64 a2_0)) (ds := []) #[false, false, false, false, false, false, false, false, false, false, false, false, false, false, false, false] (by kernel_rfl) rfl rfl ((blk_cell BK2.out 0).trans rfl) (fun hHeld => ?_); refine with_tabW impl_productOf_1S.tab1 impl_productOf_1S.bits1 (fun HT_ HW_ => ?_); generalize w.drew = w11 at BK2 BK3 BK4 BK5 HB hHeld ⊢; refine pq 0 13 rfl rfl HT_ ?_; refine pq 3 16 rfl rfl HT_ ?_; refine pq 6 19 rfl rfl HT_ ?_; refine pq 9 22 rfl rfl HT_ ?_; refine take_ (i := 1) (N := some 14) (v := ?_) (a' := ?_) #[true, true, false, true, false, false, true, false, false, true, false, false, false, false, false, false] rfl rfl (take_ofW HT_.out HW_.out (by kernel_rfl)) (fun _ _ _ h => h) (Or.inl ⟨by rfl, ?_⟩) hHeld ?_ ?_
 rotate_left
 ·intro w' s0
  go_simp
  with_reducible rfl
 rotate_left
 ·simp only [Act.put, List.setIfInBounds_toArray, List.set_cons_zero, List.set_cons_succ, i64_w, i32_w]
  rfl
 refine pq 2 15 rfl rfl HT_ ?_; refine pq 12 9 rfl rfl HT_ ?_; refine take_ (i := 4) (N := some 17) (v := ?_) (a' := ?_) #[true, true, true, true, true, false, true, false, false, true, false, false, true, false, false, false] rfl rfl (take_ofW HT_.out HW_.out (by kernel_rfl)) (fun _ _ _ h => h) (Or.inl ⟨by rfl, ?_⟩) hHeld ?_ ?_
 rotate_left
 ·intro w' s0
  go_simp
  with_reducible rfl
 rotate_left
 ·simp only [Act.put, List.setIfInBounds_toArray, List.set_cons_zero, List.set_cons_succ, i64_w, i32_w]
  rfl
 refine pq 5 18 rfl rfl HT_ ?_; refine pq 13 10 rfl rfl HT_ ?_; refine take_ (i := 7) (N := some 20) (v := ?_) (a' := ?_) #[true, true, true, true, true, true, true, true, false, true, false, false, true, true, false, false] rfl rfl (take_ofW HT_.out HW_.out (by kernel_rfl)) (fun _ _ _ h => h) (Or.inl ⟨by rfl, ?_⟩) hHeld ?_ ?_
 rotate_left
 ·intro w' s0
  go_simp
  with_reducible rfl
 rotate_left
 ·simp only [Act.put, List.setIfInBounds_toArray, List.set_cons_zero, List.set_cons_succ, i64_w, i32_w]
  rfl
 refine pq 8 21 rfl rfl HT_ ?_; refine pq 14 11 rfl rfl HT_ ?_; refine take_ (i := 10) (N := some 23) (v := ?_) (a' := ?_) #[true, true, true, true, true, true, true, true, true, true, true, false, true, true, true, false] rfl rfl (take_ofW HT_.out HW_.out (by kernel_rfl)) (fun _ _ _ h => h) (Or.inl ⟨by rfl, ?_⟩) hHeld ?_ ?_
 rotate_left
 ·intro w' s0
  go_simp
  with_reducible rfl
 rotate_left
 ·simp only [Act.put, List.setIfInBounds_toArray, List.set_cons_zero, List.set_cons_succ, i64_w, i32_w]
  rfl
 refine pq 11 24 rfl rfl HT_ ?_; refine pq 15 12 rfl rfl HT_ ?_; refine done_ (done_of HT_.out (by kernel_rfl)) ?_
 try go_wp2
 replace BK2 := am (blk_drew BK2.out); replace BK3 := am (blk_drew BK3.out); replace BK4 := am (blk_drew BK4.out); replace BK5 := am (blk_drew BK5.out); replace HB := am (below_drew1 HB.out); refine start_ (n := 17) (S := fun w' => w'.cell? ⟨g3, 0, none⟩ = some (.func (.func 133) #[] #[]) ∧ w'.cell? ⟨g4, 0, none⟩ = some (.slice A4_0 l4_0.length c4_0) ∧ w'.cell? ⟨g5, 0, none⟩ = some (.slice A5_0 l5_0.length c5_0)) (ds := []) #[false, false, false, false, false, false, false, false, false, false, false, false, false, false, false, false, false] (by kernel_rfl) rfl rfl ⟨(blk_cell BK3.out 0).trans rfl, (blk_cell BK4.out 0).trans rfl, (blk_cell BK5.out 0).trans rfl⟩ (fun hHeld => ?_); refine with_tabW impl_productOf_1S.tab2 impl_productOf_1S.bits2 (fun HT_ HW_ => ?_); generalize w11.drew = w12 at BK2 BK3 BK4 BK5 HB hHeld ⊢; refine pq 1 26 rfl rfl HT_ ?_; refine pq 2 27 rfl rfl HT_ ?_; refine pq 3 28 rfl rfl HT_ ?_; refine pq 5 30 rfl rfl HT_ ?_; refine pq 6 31 rfl rfl HT_ ?_; refine pq 8 33 rfl rfl HT_ ?_; refine pq 9 34 rfl rfl HT_ ?_; refine pq 10 35 rfl rfl HT_ ?_; refine pq 12 37 rfl rfl HT_ ?_; refine pq 13 38 rfl rfl HT_ ?_; refine tq3 0 25 rfl rfl HT_ HW_ hHeld ?_; refine tq3 4 29 rfl rfl HT_ HW_ hHeld ?_; refine tq3 11 36 rfl rfl HT_ HW_ hHeld ?_; refine oq 7 32 rfl rfl HT_ (fun K hK => ?_); refine goes_ Try.func136 (by kernel_rfl) rfl #[.agg #[.slice A4_0 l4_0.length c4_0], .int .i64 (wrap64 (Int.tdiv a0 a2_0)), .int .i64 (wrap64 (Int.tdiv a1 a2_0))] (by rfl) rfl rfl Q6 ?_
 with_reducible refine (impl_net_has.calls _ _ l4_0 (wrap64 (Int.tdiv a0 a2_0)) (wrap64 (Int.tdiv a1 a2_0)) t101 _ ?side1 ?side2 A8.out).mono ?_
 (case side1 => exact (Q11 HR4_0 HB))
 (case side2 => exact HC4_0.out)
 rintro e w13 ⟨rfl, hb⟩; refine ⟨_, rfl, ?_⟩; replace BK2 := bb BK2 hb; replace BK3 := bb BK3 hb; replace BK4 := bb BK4 hb; replace BK5 := bb BK5 hb; replace HB := bs HB hb; (try clear hb); refine hK.out _ _ ⟨(blk_cell BK3.out 0).trans rfl, (blk_cell BK4.out 0).trans rfl, (blk_cell BK5.out 0).trans rfl⟩ (fun hHeld => ?_); clear hK K; refine nz ?_
 refine oq 14 39 rfl rfl HT_ (fun K hK => ?_); refine goes_ Try.func136 (by kernel_rfl) rfl #[.agg #[.slice A5_0 l5_0.length c5_0], .int .i64 (Int.tmod a0 a2_0), .int .i64 (Int.tmod a1 a2_0)] (by rfl) rfl rfl Q6 ?_
 with_reducible refine (impl_net_has.calls _ _ l5_0 (Int.tmod a0 a2_0) (Int.tmod a1 a2_0) t102 _ ?side1 ?side2 A9.out).mono ?_
 (case side1 => exact (Q11 HR5_0 HB))
 (case side2 => exact HC5_0.out)
 rintro e w14 ⟨rfl, hb⟩; refine ⟨_, rfl, ?_⟩; replace BK2 := bb BK2 hb; replace BK3 := bb BK3 hb; replace BK4 := bb BK4 hb; replace BK5 := bb BK5 hb; replace HB := bs HB hb; (try clear hb); refine hK.out _ _ ⟨(blk_cell BK3.out 0).trans rfl, (blk_cell BK4.out 0).trans rfl, (blk_cell BK5.out 0).trans rfl⟩ (fun hHeld => ?_); clear hK K; refine nz ?_
 refine oq 15 40 rfl rfl HT_ (fun K hK => ?_); refine goesV_ Try.func133 (by kernel_rfl) rfl #[.bool ((wrap64 (Int.tdiv a0 a2_0)) == (wrap64 (Int.tdiv a1 a2_0))), .bool t101, .bool ((Int.tmod a0 a2_0) == (Int.tmod a1 a2_0)), .bool t102] (by rfl) rfl rfl (by rfl) Q6 ?_
 with_reducible refine (impl_StrongProduct_1.calls ((wrap64 (Int.tdiv a0 a2_0)) == (wrap64 (Int.tdiv a1 a2_0))) t101 ((Int.tmod a0 a2_0) == (Int.tmod a1 a2_0)) t102 t103 _ A10.out).mono ?_
 rintro e w' ⟨rfl, ⟨nd, rfl⟩⟩; refine ⟨_, rfl, ?_⟩; refine hK.out _ _ ⟨(blk_cell BK3.out 0).trans rfl, (blk_cell BK4.out 0).trans rfl, (blk_cell BK5.out 0).trans rfl⟩ (fun hHeld => ?_); clear hK K; refine nz ?_
 refine pq 16 8 rfl rfl HT_ ?_; refine done_ (done_of HT_.out (by kernel_rfl)) ?_
 try go_wp2
 go_ret
 exact ⟨Q19, Q1 HB⟩
end Go.Proofs.Ytcjddikalgnhpaa.P
