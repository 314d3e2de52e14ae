/- Functions of the program as Lean functions, and that each call comes to what they say; written by a program of this session; no conditions beyond those that each theorem names. -/
import Derived.Test.YtagniekpapmdgaaDoorPx0
import Derived.Test.YtagniekpapmdgaaDoorPxImplAppendChecksum
import Derived.Test.YtagniekpapmdgaaDoorPxImplFormatInt
import Derived.Test.YtagniekpapmdgaaDoorPxImplParseInt
import Derived.Test.YtagniekpapmdgaaDoorPxImplVerifyChecksum
import Derived.Test.YtagniekpapmdgaaDoorPxLawsVAt
import Derived.Test.YtagniekpapmdgaaDoorPxLawsVBig
import Derived.Test.YtagniekpapmdgaaDoorPxSpecAppendChecksum
import Derived.Test.YtagniekpapmdgaaDoorPxSpecDrawAppendChecksum
import Derived.Test.YtagniekpapmdgaaDoorPxSpecDrawFormatInt
import Derived.Test.YtagniekpapmdgaaDoorPxSpecDrawParseInt
import Derived.Test.YtagniekpapmdgaaDoorPxSpecFormatInt
import Derived.Test.YtagniekpapmdgaaDoorPxSpecParseInt
namespace Go.Proofs.YtagniekpapmdgaaDoor.P
open Go.RowKit Go.Proofs.YtagniekpapmdgaaDoorW.PrintWords Go.Proofs.YtagniekpapmdgaaDoorW.PrintLast Go.Proofs.YtagniekpapmdgaaDoorW.PrintMore
attribute [local go_sem] max2_int min2_int max_two min_two max_three min_three max_four min_four   -- for this text's walks alone
set_option linter.unusedVariables false
set_option linter.unusedSimpArgs false

/-! ### laws_FnStrings: function 3 -/
/-- A text's bytes. -/
def bytesOf (s : ByteArray) : List Int := s.data.toList.map (fun b => (b.toNat : Int))
mutual
def laws_FnStrings.j0 : Nat → List Int → Int → ByteArray → Bool → ByteArray → ByteArray → Bool → Bool → Option (Bool)
 | 0, _, _, _, _, _, _, _, _ => none
 | k + 1, x0, x3, x4, x5, x13, x14, x15, x91 => if x91 = true then (none) else ((impl_ParseInt.f x4).bind fun bt117 => (if x5 = true then (if bt117.2 = true then (laws_FnStrings.j1 k x0 x13 x14 x15 (bt117.1 != x3)) else (laws_FnStrings.j1 k x0 x13 x14 x15 true)) else (laws_FnStrings.j1 k x0 x13 x14 x15 false)))
def laws_FnStrings.j1 : Nat → List Int → ByteArray → ByteArray → Bool → Bool → Option (Bool)
 | 0, _, _, _, _, _ => none
 | k + 1, x0, x13, x14, x15, x106 => if x106 = true then (none) else (if x15 = true then ((impl_VerifyChecksum.f k x14).bind fun bt119 => ((some (bytesOf x14 : List Int)).bind fun y121 => ((laws_vAt.f x0 9).bind fun t124 => (if (y121.length : Int) = 0 then (none) else (if 0 ≤ (Int.tmod t124 (y121.length : Int)) then (if (Int.tmod t124 (y121.length : Int)) < (y121.length : Int) then ((laws_vAt.f x0 10).bind fun t126 => ((impl_VerifyChecksum.f k (strOfNums (y121.set ((Int.tmod t124 (y121.length : Int)) : Int).toNat (Go.bits .xor .u8 (rd y121 (Int.tmod t124 (y121.length : Int))) ((wrap64 (1 + (Int.tmod t126 255))) % 256))))).bind fun bt128 => (if bt119.2 = true then (if bt119.1.toList = x13.toList then (some (!bt128.2)) else (none)) else (none)))) else (none)) else (none)))))) else (some (x14.toList == ([] : List UInt8))))
end
def laws_FnStrings.f (k : Nat) (l0 : List Int) : Option (Bool) := (laws_vBig.f l0).bind fun t101 => (if t101 = true then (some true) else ((spec_DrawFormatInt.f l0).bind fun t102 => ((impl_FormatInt.f t102).bind fun bt103 => ((spec_FormatInt.f k t102).bind fun bt105 => ((spec_DrawParseInt.f k l0).bind fun t107 => ((impl_ParseInt.f t107).bind fun bt108 => ((spec_ParseInt.f k t107).bind fun bt110 => ((spec_DrawAppendChecksum.f l0).bind fun t112 => ((impl_AppendChecksum.f k t112).bind fun bt113 => ((spec_AppendChecksum.f k t112).bind fun bt115 => (if bt103.1.toList = bt105.1.toList then (if (bt103.2 != bt105.2) = true then (laws_FnStrings.j0 k l0 t102 bt103.1 bt103.2 t112 bt113.1 bt113.2 true) else (if bt108.1 = bt110.1 then (if (bt108.2 != bt110.2) = true then (laws_FnStrings.j0 k l0 t102 bt103.1 bt103.2 t112 bt113.1 bt113.2 true) else (if bt113.1.toList = bt115.1.toList then (laws_FnStrings.j0 k l0 t102 bt103.1 bt103.2 t112 bt113.1 bt113.2 (bt113.2 != bt115.2)) else (laws_FnStrings.j0 k l0 t102 bt103.1 bt103.2 t112 bt113.1 bt113.2 true))) else (laws_FnStrings.j0 k l0 t102 bt103.1 bt103.2 t112 bt113.1 bt113.2 true))) else (laws_FnStrings.j0 k l0 t102 bt103.1 bt103.2 t112 bt113.1 bt113.2 true))))))))))))
theorem laws_FnStrings.mono_l : ∀ k, (∀ y0 y1 y2 y3 y4 y5 y6 y7, LeO (laws_FnStrings.j0 k y0 y1 y2 y3 y4 y5 y6 y7) (laws_FnStrings.j0 (k + 1) y0 y1 y2 y3 y4 y5 y6 y7)) ∧ (∀ y0 y1 y2 y3 y4, LeO (laws_FnStrings.j1 k y0 y1 y2 y3 y4) (laws_FnStrings.j1 (k + 1) y0 y1 y2 y3 y4))
 | 0 => ⟨fun _ _ _ _ _ _ _ _ r h => by simp [laws_FnStrings.j0] at h, fun _ _ _ _ _ r h => by simp [laws_FnStrings.j1] at h⟩
 | k + 1 => by
  obtain ⟨ih0, ih1⟩ := laws_FnStrings.mono_l k
  refine ⟨?_, ?_⟩
  all_goals
   intros
   first | unfold laws_FnStrings.j0 | unfold laws_FnStrings.j1
   repeat' first | (with_reducible first | exact ih0 _ _ _ _ _ _ _ _ | exact ih1 _ _ _ _ _ | exact impl_AppendChecksum.mono _ _ | exact impl_VerifyChecksum.mono _ _ | exact spec_AppendChecksum.mono _ _ | exact spec_DrawParseInt.mono _ _ | exact spec_FormatInt.mono _ _ | exact spec_ParseInt.mono _ _ | exact LeO.refl _ | exact LeO.none _ | refine LeO.ite ?_ ?_ | refine LeO.bind ?_ (fun _ => ?_)) | exact ih0 _ _ _ _ _ _ _ _ | exact ih1 _ _ _ _ _ | exact impl_AppendChecksum.mono _ _ | exact impl_VerifyChecksum.mono _ _ | exact spec_AppendChecksum.mono _ _ | exact spec_DrawParseInt.mono _ _ | exact spec_FormatInt.mono _ _ | exact spec_ParseInt.mono _ _ | exact LeO.none _ | refine LeO.ite ?_ ?_ | refine LeO.bind ?_ (fun _ => ?_)
theorem laws_FnStrings.mono : ∀ a0 k, LeO (laws_FnStrings.f k a0) (laws_FnStrings.f (k + 1) a0) := by
 intro a0 k
 obtain ⟨ih0, ih1⟩ := laws_FnStrings.mono_l k
 unfold laws_FnStrings.f
 repeat' first | (with_reducible first | exact ih0 _ _ _ _ _ _ _ _ | exact ih1 _ _ _ _ _ | exact impl_AppendChecksum.mono _ _ | exact impl_VerifyChecksum.mono _ _ | exact spec_AppendChecksum.mono _ _ | exact spec_DrawParseInt.mono _ _ | exact spec_FormatInt.mono _ _ | exact spec_ParseInt.mono _ _ | exact LeO.refl _ | exact LeO.none _ | refine LeO.ite ?_ ?_ | refine LeO.bind ?_ (fun _ => ?_)) | exact ih0 _ _ _ _ _ _ _ _ | exact ih1 _ _ _ _ _ | exact impl_AppendChecksum.mono _ _ | exact impl_VerifyChecksum.mono _ _ | exact spec_AppendChecksum.mono _ _ | exact spec_DrawParseInt.mono _ _ | exact spec_FormatInt.mono _ _ | exact spec_ParseInt.mono _ _ | exact LeO.none _ | refine LeO.ite ?_ ?_ | refine LeO.bind ?_ (fun _ => ?_)
def laws_FnStrings.T22 : Bool × List (List Nat × List Nat) := (true, [([], []), ([], []), ([], []), ([], []), ([2, 3], [2, 3]), ([4], [4]), ([], []), ([6], [6]), ([7], [7]), ([8], [8]), ([9], [9]), ([5, 10], [5, 10]), ([0, 1, 0, 1, 2, 3, 4, 5, 6, 7, 8, 9, 10, 11], [0, 1]), ([12, 11, 7, 0, 1, 2, 3, 4, 5, 6, 7, 8, 9, 10, 11], [11, 12])])
def laws_FnStrings.B22 : List Nat := [0, 0, 0, 0, 12, 28, 0, 64, 192, 448, 960, 2044, 4095, 8191]
theorem laws_FnStrings.tab22 : rtab .any (opsOf Tryd.f3 22) = laws_FnStrings.T22 := by kernel_rfl
theorem laws_FnStrings.bits22 : waitsOk laws_FnStrings.T22.2 laws_FnStrings.B22 = true := by kernel_rfl
theorem laws_FnStrings.j0_true {k : Nat} {x0 x3 x4 x5 x13 x14 x15} {r : Bool} (h : laws_FnStrings.j0 k x0 x3 x4 x5 x13 x14 x15 true = some r) : False := by cases k <;> simp [laws_FnStrings.j0] at h
theorem laws_FnStrings.j1_true {k : Nat} {x0 x13 x14 x15} {r : Bool} (h : laws_FnStrings.j1 k x0 x13 x14 x15 true = some r) : False := by cases k <;> simp [laws_FnStrings.j1] at h
/-- A row of bytes that a conversion made, with the mark behind its cells. -/
def RB (W : World) (base : Nat) (v : Value) (xs : List Int) : Prop := ∃ (g cap m : Nat) (cells : Array Value), v = .slice (some ⟨g, 0, none⟩) xs.length cap ∧ base ≤ g ∧ g < W.heap.size ∧ W.heap[g]? = some (.cells cells 5 (m, m + 1)) ∧ xs.length ≤ m ∧ ∀ j, j < xs.length → cells[j]? = some (.int .u8 (xs.getD j 0))
theorem RB.below {W W1 : World} {base : Nat} {v : Value} {xs : List Int} (h : RB W base v xs) (hb : Below W.heap.size W W1) : RB W1 base v xs := by
  obtain ⟨g, cap, m, cells, he, h1, h2, h3, h4, h5⟩ := h
  exact ⟨g, cap, m, cells, he, h1, Nat.lt_of_lt_of_le h2 hb.size, (hb.block g h2).trans h3, h4, h5⟩
theorem RB.lower {W : World} {base base' : Nat} {v : Value} {xs : List Int} (h : RB W base v xs) (hb : base' ≤ base) : RB W base' v xs := by
  obtain ⟨g, cap, m, cells, he, h1, h2⟩ := h
  exact ⟨g, cap, m, cells, he, Nat.le_trans hb h1, h2⟩
theorem RB.drewN {W : World} {base : Nat} {v : Value} {xs : List Int} (h : RB W base v xs) (n : Nat) : RB (W.drewN n) base v xs := h
theorem RB.drew {W : World} {base : Nat} {v : Value} {xs : List Int} (h : RB W base v xs) : RB W.drew base v xs := h
theorem RB.slice {W : World} {base : Nat} {v : Value} {xs : List Int} (h : RB W base v xs) : ∃ A c, v = .slice A xs.length c := by
  obtain ⟨g, cap, m, cells, he, _⟩ := h
  exact ⟨_, _, he⟩
theorem RB.cell {W : World} {base n c g : Nat} {xs : List Int} (h : RB W base (.slice (some ⟨g, 0, none⟩) n c) xs) (i : Int) (h0 : 0 ≤ i) (h1 : i < xs.length) : W.cell? ⟨g, i.toNat, none⟩ = some (.int .u8 (rd xs i)) ∧ W.frozen? ⟨g, i.toNat, none⟩ = false := by
  obtain ⟨g', cap, m, cells, he, _, h2, h3, h4, h5⟩ := h
  injection he with e1 e2 e3
  injection e1 with e1
  injection e1 with e1
  subst e1
  constructor
  · simp only [World.cell?, h3]
    exact h5 i.toNat (by omega)
  · simp only [World.frozen?, h3]
    simp
    omega
theorem RB.at {W : World} {base n c : Nat} {A : Option Addr} {xs : List Int} (h : RB W base (.slice A n c) xs) (i : Int) (h0 : 0 ≤ i) (h1 : i < xs.length) : ∃ ad, A = some ad ∧ W.cell? (ad.add i.toNat) = some (.int .u8 (rd xs i)) := by
  have h' := h
  obtain ⟨g, cap, m, cells, he, _⟩ := h
  injection he with e1 e2 e3
  subst e1
  refine ⟨_, rfl, ?_⟩
  have := (RB.cell h' i h0 h1).1
  simp only [add_plain]
  exact this
theorem RB.form {W : World} {base : Nat} {v : Value} {xs : List Int} (h : RB W base v xs) : ∃ g cap, v = .slice (some ⟨g, 0, none⟩) xs.length cap ∧ base ≤ g ∧ g < W.heap.size := by
  obtain ⟨g, cap, m, cells, he, h1, h2, _⟩ := h
  exact ⟨g, cap, he, h1, h2⟩
theorem RB.put {W : World} {base n c g : Nat} {xs : List Int} (h : RB W base (.slice (some ⟨g, 0, none⟩) n c) xs) (i : Int) (h0 : 0 ≤ i) (h1 : i < xs.length) (x : Int) : RB (W.setCell ⟨g, i.toNat, none⟩ (.int .u8 x)) base (.slice (some ⟨g, 0, none⟩) n c) (xs.set i.toNat x) := by
  obtain ⟨g', cap, m, cells, he, h2, h3, h4, h5, h6⟩ := h
  injection he with e1 e2 e3
  injection e1 with e1
  injection e1 with e1
  subst e1 e2 e3
  refine ⟨g, c, m, cells.setIfInBounds i.toNat (.int .u8 x), by rw [List.length_set], h2, by simpa [World.setCell] using h3, ?_, by rw [List.length_set]; exact h5, fun j hj => ?_⟩
  · simp only [World.setCell, Array.getElem?_modify, h4]
    simp
  · rw [List.length_set] at hj
    rw [Array.getElem?_setIfInBounds, List.getD_eq_getElem?_getD, List.getElem?_set]
    have hc : j < cells.size := by
      have := h6 j hj
      rcases Nat.lt_or_ge j cells.size with h | h
      · exact h
      · rw [Array.getElem?_eq_none h] at this
        cases this
    by_cases e : i.toNat = j
    · rw [if_pos e, if_pos e, if_pos (by omega), if_pos (show i.toNat < xs.length by omega)]
      rfl
    · rw [if_neg e, if_neg e, ← List.getD_eq_getElem?_getD]
      exact h6 j hj
theorem RB.string {W : World} {base : Nat} {v : Value} {xs : List Int} (h : RB W base v xs) : (convert 22 9 v).run Tryd.prog W = .ok (.string (strOfNums xs)) W := by
  have h' := h
  obtain ⟨g, cap, m, cells, he, _⟩ := h
  subst he
  refine run_convert_bytes_arg W 22 5 Tryd.underlying22 Tryd.underlying5 g 0 xs.length cap xs rfl (fun i hi => ?_) 9 Tryd.underlying9
  have := (RB.cell h' (i : Int) (by omega) (by omega)).1
  simpa [rd] using this
theorem RB_conv {P : Program} {ops : Array Oper} {rest : List Oper} {o : Oper} {a : Act} {Q : Exit → Act → World → Prop} {W : World} (hgd : o.guard = none) (s : ByteArray)
    (hrun : (execOp a.eval o).run P W = .ok (.value (.slice (some ⟨W.heap.size, 0, none⟩) s.size (grownCap W s.size 0 5))) (Lib.bytesWorld W 5 s))
    (h : ∀ v1 w1, RB w1 W.heap.size v1 (bytesOf s) → Below W.heap.size W w1 → wpList P ops Q rest (a.put o.dst v1) w1) : wpList P ops Q (o :: rest) a W := by
  have hl : (bytesOf s).length = s.size := by unfold bytesOf; rw [List.length_map]; rfl
  refine Kd.event_run hgd hrun (h _ _ ⟨W.heap.size, grownCap W s.size 0 5, (Lib.bytesCells W 5 s).size, Lib.bytesCells W 5 s, by rw [hl], Nat.le_refl _, by rw [Lib.bytesWorld_size]; omega, Lib.bytesWorld_at_new W 5 s, ?_, fun j hj => ?_⟩ ⟨rfl, rfl, rfl, by rw [Lib.bytesWorld_size]; omega, fun k hk => Lib.bytesWorld_at_old W 5 s k hk⟩)
  · rw [hl]
    unfold Lib.bytesCells
    simp
  · rw [hl] at hj
    have h1 := Lib.bytesWorld_cell W 5 s j hj
    simp only [World.cell?, Lib.bytesWorld_at_new, Option.isSome_none, Bool.false_eq_true, if_false] at h1
    rw [h1]
    unfold bytesOf
    have hj' : j < s.data.toList.length := hj
    simp only [List.getD_eq_getElem?_getD, List.getElem?_map, List.getElem?_eq_getElem hj', Option.map_some, Option.getD_some]
set_option maxHeartbeats 8000000 in
set_option maxRecDepth 100000 in
theorem laws_FnStrings.calls (k : Nat) (A0 : Option Addr) (c0 : Nat) (l0 : List Int) (r : Bool) (w : World) (hr0 : Kd.C (Kd.int .u8) w A0 l0.length l0) (hc0 : l0.length ≤ c0) (h : laws_FnStrings.f k l0 = some r) (hVt : VarT w) (hVm : VarM w) (hVe : VarE w) :
  Calls Tryd.prog 3 #[.slice A0 l0.length c0] w fun e w' => e = .returned (.bool r) ∧ Below w.heap.size w w' := by
 have HVt := Aside0.mk hVt
 clear hVt
 have HVm := Aside0.mk hVm
 clear hVm
 have HVe := Aside0.mk hVe
 clear hVe
 have HR0 := Aside0.mk hr0
 have HC0 := Aside0.mk hc0
 clear hr0 hc0
 have HB := Aside0.mk (Below.refl w.heap.size w)
 have H : ((laws_vBig.f l0).bind fun t101 => (if t101 = true then (some true) else ((spec_DrawFormatInt.f l0).bind fun t102 => ((impl_FormatInt.f t102).bind fun bt103 => ((spec_FormatInt.f k t102).bind fun bt105 => ((spec_DrawParseInt.f k l0).bind fun t107 => ((impl_ParseInt.f t107).bind fun bt108 => ((spec_ParseInt.f k t107).bind fun bt110 => ((spec_DrawAppendChecksum.f l0).bind fun t112 => ((impl_AppendChecksum.f k t112).bind fun bt113 => ((spec_AppendChecksum.f k t112).bind fun bt115 => (if bt103.1.toList = bt105.1.toList then (if (bt103.2 != bt105.2) = true then (laws_FnStrings.j0 k l0 t102 bt103.1 bt103.2 t112 bt113.1 bt113.2 true) else (if bt108.1 = bt110.1 then (if (bt108.2 != bt110.2) = true then (laws_FnStrings.j0 k l0 t102 bt103.1 bt103.2 t112 bt113.1 bt113.2 true) else (if bt113.1.toList = bt115.1.toList then (laws_FnStrings.j0 k l0 t102 bt103.1 bt103.2 t112 bt113.1 bt113.2 (bt113.2 != bt115.2)) else (laws_FnStrings.j0 k l0 t102 bt103.1 bt103.2 t112 bt113.1 bt113.2 true))) else (laws_FnStrings.j0 k l0 t102 bt103.1 bt103.2 t112 bt113.1 bt113.2 true))) else (laws_FnStrings.j0 k l0 t102 bt103.1 bt103.2 t112 bt113.1 bt113.2 true))))))))))))) = some r := h
 clear h
 replace H := Option.bind_eq_some_iff.mp H
 obtain ⟨t101, A20, H⟩ := H
 replace H : (if t101 = true then (some true) else ((spec_DrawFormatInt.f l0).bind fun t102 => ((impl_FormatInt.f t102).bind fun bt103 => ((spec_FormatInt.f k t102).bind fun bt105 => ((spec_DrawParseInt.f k l0).bind fun t107 => ((impl_ParseInt.f t107).bind fun bt108 => ((spec_ParseInt.f k t107).bind fun bt110 => ((spec_DrawAppendChecksum.f l0).bind fun t112 => ((impl_AppendChecksum.f k t112).bind fun bt113 => ((spec_AppendChecksum.f k t112).bind fun bt115 => (if bt103.1.toList = bt105.1.toList then (if (bt103.2 != bt105.2) = true then (laws_FnStrings.j0 k l0 t102 bt103.1 bt103.2 t112 bt113.1 bt113.2 true) else (if bt108.1 = bt110.1 then (if (bt108.2 != bt110.2) = true then (laws_FnStrings.j0 k l0 t102 bt103.1 bt103.2 t112 bt113.1 bt113.2 true) else (if bt113.1.toList = bt115.1.toList then (laws_FnStrings.j0 k l0 t102 bt103.1 bt103.2 t112 bt113.1 bt113.2 (bt113.2 != bt115.2)) else (laws_FnStrings.j0 k l0 t102 bt103.1 bt103.2 t112 bt113.1 bt113.2 true))) else (laws_FnStrings.j0 k l0 t102 bt103.1 bt103.2 t112 bt113.1 bt113.2 true))) else (laws_FnStrings.j0 k l0 t102 bt103.1 bt103.2 t112 bt113.1 bt113.2 true)))))))))))) = some r := H
 have A2 := Aside0.mk A20
 clear A20
 have HU3 := Aside0.mk H
 clear H
 go_enter Tryd.func3, Tryd.ntmps3
 go_upto_if 27 with (first | ((with_reducible refine gate_callee (f := 4) rfl ?_); refine goesL_ (some 27) rfl rfl Tryd.func4 (by kernel_rfl) rfl #[.slice A0 l0.length c0] rfl (by (try simp only [List.map_toArray, List.map_cons, List.map_nil]); first | done | rfl | (simp only [List.length_drop, List.length_take]; rfl)) ?_; (with_reducible refine (laws_vBig.calls _ _ l0 t101 _ ?side1 ?side2 A2.out).mono ?_); (case side1 => repeat (first | exact HR0.out | (with_reducible refine Kd.C_alloc ?_ _) | (with_reducible refine Kd.C_drewN ?_ _) | (with_reducible refine Kd.C_drew ?_))); (case side2 => exact HC0.out); rintro e w' ⟨rfl, ⟨nd, rfl⟩⟩; refine ⟨_, rfl, ?_⟩))
 (try simp only [Act.put, List.setIfInBounds_toArray, List.set_cons_zero, List.set_cons_succ])
 have H := HU3.out
 clear HU3
 by_cases c4 : t101 = true
 ·subst c4
  have H1 : (some true) = some r := by rw [if_pos rfl] at H; exact H
  clear H
  have H := H1
  clear H1
  obtain rfl := Option.some.inj H
  go_wp2
  go_ret
  exact ⟨by first | rfl | (simp [errW_none, errW_some] <;> rfl) | (simp [*, errW_none, errW_some] <;> rfl), by repeat (first | (with_reducible first | exact HB.out | apply below_alloc | apply pw_below_drewN | apply below_drew1) | exact HB.out)⟩
 ·replace c4 := Bool.eq_false_iff.mpr c4
  subst c4
  have H1 : ((spec_DrawFormatInt.f l0).bind fun t102 => ((impl_FormatInt.f t102).bind fun bt103 => ((spec_FormatInt.f k t102).bind fun bt105 => ((spec_DrawParseInt.f k l0).bind fun t107 => ((impl_ParseInt.f t107).bind fun bt108 => ((spec_ParseInt.f k t107).bind fun bt110 => ((spec_DrawAppendChecksum.f l0).bind fun t112 => ((impl_AppendChecksum.f k t112).bind fun bt113 => ((spec_AppendChecksum.f k t112).bind fun bt115 => (if bt103.1.toList = bt105.1.toList then (if (bt103.2 != bt105.2) = true then (laws_FnStrings.j0 k l0 t102 bt103.1 bt103.2 t112 bt113.1 bt113.2 true) else (if bt108.1 = bt110.1 then (if (bt108.2 != bt110.2) = true then (laws_FnStrings.j0 k l0 t102 bt103.1 bt103.2 t112 bt113.1 bt113.2 true) else (if bt113.1.toList = bt115.1.toList then (laws_FnStrings.j0 k l0 t102 bt103.1 bt103.2 t112 bt113.1 bt113.2 (bt113.2 != bt115.2)) else (laws_FnStrings.j0 k l0 t102 bt103.1 bt103.2 t112 bt113.1 bt113.2 true))) else (laws_FnStrings.j0 k l0 t102 bt103.1 bt103.2 t112 bt113.1 bt113.2 true))) else (laws_FnStrings.j0 k l0 t102 bt103.1 bt103.2 t112 bt113.1 bt113.2 true))))))))))) = some r := by rw [if_neg (show ¬ (false = true) by decide)] at H; exact H
  clear H
  have H := H1
  clear H1
  replace H := Option.bind_eq_some_iff.mp H
  obtain ⟨t102, A50, H⟩ := H
  replace H : ((impl_FormatInt.f t102).bind fun bt103 => ((spec_FormatInt.f k t102).bind fun bt105 => ((spec_DrawParseInt.f k l0).bind fun t107 => ((impl_ParseInt.f t107).bind fun bt108 => ((spec_ParseInt.f k t107).bind fun bt110 => ((spec_DrawAppendChecksum.f l0).bind fun t112 => ((impl_AppendChecksum.f k t112).bind fun bt113 => ((spec_AppendChecksum.f k t112).bind fun bt115 => (if bt103.1.toList = bt105.1.toList then (if (bt103.2 != bt105.2) = true then (laws_FnStrings.j0 k l0 t102 bt103.1 bt103.2 t112 bt113.1 bt113.2 true) else (if bt108.1 = bt110.1 then (if (bt108.2 != bt110.2) = true then (laws_FnStrings.j0 k l0 t102 bt103.1 bt103.2 t112 bt113.1 bt113.2 true) else (if bt113.1.toList = bt115.1.toList then (laws_FnStrings.j0 k l0 t102 bt103.1 bt103.2 t112 bt113.1 bt113.2 (bt113.2 != bt115.2)) else (laws_FnStrings.j0 k l0 t102 bt103.1 bt103.2 t112 bt113.1 bt113.2 true))) else (laws_FnStrings.j0 k l0 t102 bt103.1 bt103.2 t112 bt113.1 bt113.2 true))) else (laws_FnStrings.j0 k l0 t102 bt103.1 bt103.2 t112 bt113.1 bt113.2 true)))))))))) = some r := H
  have A5 := Aside0.mk A50
  clear A50
  replace H := Option.bind_eq_some_iff.mp H
  obtain ⟨⟨t103, t104⟩, A60, H⟩ := H
  replace H : ((spec_FormatInt.f k t102).bind fun bt105 => ((spec_DrawParseInt.f k l0).bind fun t107 => ((impl_ParseInt.f t107).bind fun bt108 => ((spec_ParseInt.f k t107).bind fun bt110 => ((spec_DrawAppendChecksum.f l0).bind fun t112 => ((impl_AppendChecksum.f k t112).bind fun bt113 => ((spec_AppendChecksum.f k t112).bind fun bt115 => (if t103.toList = bt105.1.toList then (if (t104 != bt105.2) = true then (laws_FnStrings.j0 k l0 t102 t103 t104 t112 bt113.1 bt113.2 true) else (if bt108.1 = bt110.1 then (if (bt108.2 != bt110.2) = true then (laws_FnStrings.j0 k l0 t102 t103 t104 t112 bt113.1 bt113.2 true) else (if bt113.1.toList = bt115.1.toList then (laws_FnStrings.j0 k l0 t102 t103 t104 t112 bt113.1 bt113.2 (bt113.2 != bt115.2)) else (laws_FnStrings.j0 k l0 t102 t103 t104 t112 bt113.1 bt113.2 true))) else (laws_FnStrings.j0 k l0 t102 t103 t104 t112 bt113.1 bt113.2 true))) else (laws_FnStrings.j0 k l0 t102 t103 t104 t112 bt113.1 bt113.2 true))))))))) = some r := H
  have A6 := Aside0.mk A60
  clear A60
  replace H := Option.bind_eq_some_iff.mp H
  obtain ⟨⟨t105, t106⟩, A70, H⟩ := H
  replace H : ((spec_DrawParseInt.f k l0).bind fun t107 => ((impl_ParseInt.f t107).bind fun bt108 => ((spec_ParseInt.f k t107).bind fun bt110 => ((spec_DrawAppendChecksum.f l0).bind fun t112 => ((impl_AppendChecksum.f k t112).bind fun bt113 => ((spec_AppendChecksum.f k t112).bind fun bt115 => (if t103.toList = t105.toList then (if (t104 != t106) = true then (laws_FnStrings.j0 k l0 t102 t103 t104 t112 bt113.1 bt113.2 true) else (if bt108.1 = bt110.1 then (if (bt108.2 != bt110.2) = true then (laws_FnStrings.j0 k l0 t102 t103 t104 t112 bt113.1 bt113.2 true) else (if bt113.1.toList = bt115.1.toList then (laws_FnStrings.j0 k l0 t102 t103 t104 t112 bt113.1 bt113.2 (bt113.2 != bt115.2)) else (laws_FnStrings.j0 k l0 t102 t103 t104 t112 bt113.1 bt113.2 true))) else (laws_FnStrings.j0 k l0 t102 t103 t104 t112 bt113.1 bt113.2 true))) else (laws_FnStrings.j0 k l0 t102 t103 t104 t112 bt113.1 bt113.2 true)))))))) = some r := H
  have A7 := Aside0.mk A70
  clear A70
  replace H := Option.bind_eq_some_iff.mp H
  obtain ⟨t107, A80, H⟩ := H
  replace H : ((impl_ParseInt.f t107).bind fun bt108 => ((spec_ParseInt.f k t107).bind fun bt110 => ((spec_DrawAppendChecksum.f l0).bind fun t112 => ((impl_AppendChecksum.f k t112).bind fun bt113 => ((spec_AppendChecksum.f k t112).bind fun bt115 => (if t103.toList = t105.toList then (if (t104 != t106) = true then (laws_FnStrings.j0 k l0 t102 t103 t104 t112 bt113.1 bt113.2 true) else (if bt108.1 = bt110.1 then (if (bt108.2 != bt110.2) = true then (laws_FnStrings.j0 k l0 t102 t103 t104 t112 bt113.1 bt113.2 true) else (if bt113.1.toList = bt115.1.toList then (laws_FnStrings.j0 k l0 t102 t103 t104 t112 bt113.1 bt113.2 (bt113.2 != bt115.2)) else (laws_FnStrings.j0 k l0 t102 t103 t104 t112 bt113.1 bt113.2 true))) else (laws_FnStrings.j0 k l0 t102 t103 t104 t112 bt113.1 bt113.2 true))) else (laws_FnStrings.j0 k l0 t102 t103 t104 t112 bt113.1 bt113.2 true))))))) = some r := H
  have A8 := Aside0.mk A80
  clear A80
  replace H := Option.bind_eq_some_iff.mp H
  obtain ⟨⟨t108, t109⟩, A90, H⟩ := H
  replace H : ((spec_ParseInt.f k t107).bind fun bt110 => ((spec_DrawAppendChecksum.f l0).bind fun t112 => ((impl_AppendChecksum.f k t112).bind fun bt113 => ((spec_AppendChecksum.f k t112).bind fun bt115 => (if t103.toList = t105.toList then (if (t104 != t106) = true then (laws_FnStrings.j0 k l0 t102 t103 t104 t112 bt113.1 bt113.2 true) else (if t108 = bt110.1 then (if (t109 != bt110.2) = true then (laws_FnStrings.j0 k l0 t102 t103 t104 t112 bt113.1 bt113.2 true) else (if bt113.1.toList = bt115.1.toList then (laws_FnStrings.j0 k l0 t102 t103 t104 t112 bt113.1 bt113.2 (bt113.2 != bt115.2)) else (laws_FnStrings.j0 k l0 t102 t103 t104 t112 bt113.1 bt113.2 true))) else (laws_FnStrings.j0 k l0 t102 t103 t104 t112 bt113.1 bt113.2 true))) else (laws_FnStrings.j0 k l0 t102 t103 t104 t112 bt113.1 bt113.2 true)))))) = some r := H
  have A9 := Aside0.mk A90
  clear A90
  replace H := Option.bind_eq_some_iff.mp H
  obtain ⟨⟨t110, t111⟩, A100, H⟩ := H
  replace H : ((spec_DrawAppendChecksum.f l0).bind fun t112 => ((impl_AppendChecksum.f k t112).bind fun bt113 => ((spec_AppendChecksum.f k t112).bind fun bt115 => (if t103.toList = t105.toList then (if (t104 != t106) = true then (laws_FnStrings.j0 k l0 t102 t103 t104 t112 bt113.1 bt113.2 true) else (if t108 = t110 then (if (t109 != t111) = true then (laws_FnStrings.j0 k l0 t102 t103 t104 t112 bt113.1 bt113.2 true) else (if bt113.1.toList = bt115.1.toList then (laws_FnStrings.j0 k l0 t102 t103 t104 t112 bt113.1 bt113.2 (bt113.2 != bt115.2)) else (laws_FnStrings.j0 k l0 t102 t103 t104 t112 bt113.1 bt113.2 true))) else (laws_FnStrings.j0 k l0 t102 t103 t104 t112 bt113.1 bt113.2 true))) else (laws_FnStrings.j0 k l0 t102 t103 t104 t112 bt113.1 bt113.2 true))))) = some r := H
  have A10 := Aside0.mk A100
  clear A100
  replace H := Option.bind_eq_some_iff.mp H
  obtain ⟨t112, A110, H⟩ := H
  replace H : ((impl_AppendChecksum.f k t112).bind fun bt113 => ((spec_AppendChecksum.f k t112).bind fun bt115 => (if t103.toList = t105.toList then (if (t104 != t106) = true then (laws_FnStrings.j0 k l0 t102 t103 t104 t112 bt113.1 bt113.2 true) else (if t108 = t110 then (if (t109 != t111) = true then (laws_FnStrings.j0 k l0 t102 t103 t104 t112 bt113.1 bt113.2 true) else (if bt113.1.toList = bt115.1.toList then (laws_FnStrings.j0 k l0 t102 t103 t104 t112 bt113.1 bt113.2 (bt113.2 != bt115.2)) else (laws_FnStrings.j0 k l0 t102 t103 t104 t112 bt113.1 bt113.2 true))) else (laws_FnStrings.j0 k l0 t102 t103 t104 t112 bt113.1 bt113.2 true))) else (laws_FnStrings.j0 k l0 t102 t103 t104 t112 bt113.1 bt113.2 true)))) = some r := H
  have A11 := Aside0.mk A110
  clear A110
  replace H := Option.bind_eq_some_iff.mp H
  obtain ⟨⟨t113, t114⟩, A120, H⟩ := H
  replace H : ((spec_AppendChecksum.f k t112).bind fun bt115 => (if t103.toList = t105.toList then (if (t104 != t106) = true then (laws_FnStrings.j0 k l0 t102 t103 t104 t112 t113 t114 true) else (if t108 = t110 then (if (t109 != t111) = true then (laws_FnStrings.j0 k l0 t102 t103 t104 t112 t113 t114 true) else (if t113.toList = bt115.1.toList then (laws_FnStrings.j0 k l0 t102 t103 t104 t112 t113 t114 (t114 != bt115.2)) else (laws_FnStrings.j0 k l0 t102 t103 t104 t112 t113 t114 true))) else (laws_FnStrings.j0 k l0 t102 t103 t104 t112 t113 t114 true))) else (laws_FnStrings.j0 k l0 t102 t103 t104 t112 t113 t114 true))) = some r := H
  have A12 := Aside0.mk A120
  clear A120
  replace H := Option.bind_eq_some_iff.mp H
  obtain ⟨⟨t115, t116⟩, A130, H⟩ := H
  replace H : (if t103.toList = t105.toList then (if (t104 != t106) = true then (laws_FnStrings.j0 k l0 t102 t103 t104 t112 t113 t114 true) else (if t108 = t110 then (if (t109 != t111) = true then (laws_FnStrings.j0 k l0 t102 t103 t104 t112 t113 t114 true) else (if t113.toList = t115.toList then (laws_FnStrings.j0 k l0 t102 t103 t104 t112 t113 t114 (t114 != t116)) else (laws_FnStrings.j0 k l0 t102 t103 t104 t112 t113 t114 true))) else (laws_FnStrings.j0 k l0 t102 t103 t104 t112 t113 t114 true))) else (laws_FnStrings.j0 k l0 t102 t103 t104 t112 t113 t114 true)) = some r := H
  have A13 := Aside0.mk A130
  clear A130
  have HU14 := Aside0.mk H
  clear H
  go_upto_region 12 with (first | ((with_reducible refine gate_callee (f := 5) rfl ?_); refine goesL_ (some 29) rfl rfl Tryd.func5 (by kernel_rfl) rfl #[.slice A0 l0.length c0] rfl (by (try simp only [List.map_toArray, List.map_cons, List.map_nil]); first | done | rfl | (simp only [List.length_drop, List.length_take]; rfl)) ?_; (with_reducible refine (spec_DrawFormatInt.calls _ _ l0 t102 _ ?side1 ?side2 A5.out).mono ?_); (case side1 => repeat (first | exact (Kd.C_below HR0.out (by repeat (first | (with_reducible first | exact HB.out | apply below_alloc | apply pw_below_drewN | apply below_drew1) | exact HB.out))) | (with_reducible refine Kd.C_alloc ?_ _) | (with_reducible refine Kd.C_drewN ?_ _) | (with_reducible refine Kd.C_drew ?_))); (case side2 => exact HC0.out); rintro e w15 ⟨rfl, hb⟩; refine ⟨_, rfl, ?_⟩; have n0_ := Aside0.mk (below_step (by repeat (first | (with_reducible first | exact HB.out | apply below_alloc | apply pw_below_drewN | apply below_drew1) | exact HB.out)) hb); clear HB; have HB := n0_; clear n0_; (try clear hb); (try clear hb2); (try clear hk); (try clear hi)) | ((with_reducible refine gate_callee (f := 6) rfl ?_); refine goesL_ (some 32) rfl rfl Tryd.func6 (by kernel_rfl) rfl #[.int .i64 t102] rfl (by (try simp only [List.map_toArray, List.map_cons, List.map_nil]); first | done | rfl | (simp only [List.length_drop, List.length_take]; rfl)) ?_; (with_reducible refine (impl_FormatInt.calls t102 t103 t104 _ A6.out (HVt.out.on (by repeat (first | (with_reducible first | exact HB.out | apply below_alloc | apply pw_below_drewN | apply below_drew1) | exact HB.out | refine below_set ?_ (Aside0.out (by assumption)))))).mono ?_); rintro e w16 ⟨rfl, hb⟩; refine ⟨_, rfl, ?_⟩; have n0_ := Aside0.mk (below_step (by repeat (first | (with_reducible first | exact HB.out | apply below_alloc | apply pw_below_drewN | apply below_drew1) | exact HB.out)) hb); clear HB; have HB := n0_; clear n0_; (try clear hb); (try clear hb2); (try clear hk); (try clear hi)) | ((with_reducible refine gate_callee (f := 7) rfl ?_); refine goesL_ (some 37) rfl rfl Tryd.func7 (by kernel_rfl) rfl #[.int .i64 t102] rfl (by (try simp only [List.map_toArray, List.map_cons, List.map_nil]); first | done | rfl | (simp only [List.length_drop, List.length_take]; rfl)) ?_; (with_reducible refine (spec_FormatInt.calls k t102 t105 t106 _ A7.out).mono ?_); rintro e w17 ⟨rfl, hb⟩; refine ⟨_, rfl, ?_⟩; have n0_ := Aside0.mk (below_step (by repeat (first | (with_reducible first | exact HB.out | apply below_alloc | apply pw_below_drewN | apply below_drew1) | exact HB.out)) hb); clear HB; have HB := n0_; clear n0_; (try clear hb); (try clear hb2); (try clear hk); (try clear hi)) | ((with_reducible refine gate_callee (f := 8) rfl ?_); refine goesL_ (some 41) rfl rfl Tryd.func8 (by kernel_rfl) rfl #[.slice A0 l0.length c0] rfl (by (try simp only [List.map_toArray, List.map_cons, List.map_nil]); first | done | rfl | (simp only [List.length_drop, List.length_take]; rfl)) ?_; (with_reducible refine (spec_DrawParseInt.calls k _ _ l0 t107 _ ?side1 ?side2 A8.out).mono ?_); (case side1 => repeat (first | exact (Kd.C_below HR0.out HB.out) | (with_reducible refine Kd.C_alloc ?_ _) | (with_reducible refine Kd.C_drewN ?_ _) | (with_reducible refine Kd.C_drew ?_))); (case side2 => exact HC0.out); rintro e w18 ⟨rfl, hb⟩; refine ⟨_, rfl, ?_⟩; have n0_ := Aside0.mk (below_step (by repeat (first | (with_reducible first | exact HB.out | apply below_alloc | apply pw_below_drewN | apply below_drew1) | exact HB.out)) hb); clear HB; have HB := n0_; clear n0_; (try clear hb); (try clear hb2); (try clear hk); (try clear hi)) | ((with_reducible refine gate_callee (f := 9) rfl ?_); refine goesL_ (some 44) rfl rfl Tryd.func9 (by kernel_rfl) rfl #[.string t107] rfl (by (try simp only [List.map_toArray, List.map_cons, List.map_nil]); first | done | rfl | (simp only [List.length_drop, List.length_take]; rfl)) ?_; (with_reducible refine (impl_ParseInt.calls t107 t108 t109 _ A9.out (HVt.out.on (by repeat (first | (with_reducible first | exact HB.out | apply below_alloc | apply pw_below_drewN | apply below_drew1) | exact HB.out | refine below_set ?_ (Aside0.out (by assumption))))) (HVe.out.on (by repeat (first | (with_reducible first | exact HB.out | apply below_alloc | apply pw_below_drewN | apply below_drew1) | exact HB.out | refine below_set ?_ (Aside0.out (by assumption)))))).mono ?_); rintro e w19 ⟨rfl, hb⟩; refine ⟨_, rfl, ?_⟩; have n0_ := Aside0.mk (below_step (by repeat (first | (with_reducible first | exact HB.out | apply below_alloc | apply pw_below_drewN | apply below_drew1) | exact HB.out)) hb); clear HB; have HB := n0_; clear n0_; (try clear hb); (try clear hb2); (try clear hk); (try clear hi)) | ((with_reducible refine gate_callee (f := 10) rfl ?_); refine goesL_ (some 49) rfl rfl Tryd.func10 (by kernel_rfl) rfl #[.string t107] rfl (by (try simp only [List.map_toArray, List.map_cons, List.map_nil]); first | done | rfl | (simp only [List.length_drop, List.length_take]; rfl)) ?_; (with_reducible refine (spec_ParseInt.calls k t107 t110 t111 _ A10.out).mono ?_); rintro e w20 ⟨rfl, hb⟩; refine ⟨_, rfl, ?_⟩; have n0_ := Aside0.mk (below_step (by repeat (first | (with_reducible first | exact HB.out | apply below_alloc | apply pw_below_drewN | apply below_drew1) | exact HB.out)) hb); clear HB; have HB := n0_; clear n0_; (try clear hb); (try clear hb2); (try clear hk); (try clear hi)) | ((with_reducible refine gate_callee (f := 11) rfl ?_); refine goesL_ (some 53) rfl rfl Tryd.func11 (by kernel_rfl) rfl #[.slice A0 l0.length c0] rfl (by (try simp only [List.map_toArray, List.map_cons, List.map_nil]); first | done | rfl | (simp only [List.length_drop, List.length_take]; rfl)) ?_; (with_reducible refine (spec_DrawAppendChecksum.calls _ _ l0 t112 _ ?side1 ?side2 A11.out).mono ?_); (case side1 => repeat (first | exact (Kd.C_below HR0.out HB.out) | (with_reducible refine Kd.C_alloc ?_ _) | (with_reducible refine Kd.C_drewN ?_ _) | (with_reducible refine Kd.C_drew ?_))); (case side2 => exact HC0.out); rintro e w21 ⟨rfl, hb⟩; refine ⟨_, rfl, ?_⟩; have n0_ := Aside0.mk (below_step (by repeat (first | (with_reducible first | exact HB.out | apply below_alloc | apply pw_below_drewN | apply below_drew1) | exact HB.out)) hb); clear HB; have HB := n0_; clear n0_; (try clear hb); (try clear hb2); (try clear hk); (try clear hi)) | ((with_reducible refine gate_callee (f := 12) rfl ?_); refine goesL_ (some 56) rfl rfl Tryd.func12 (by kernel_rfl) rfl #[.string t112] rfl (by (try simp only [List.map_toArray, List.map_cons, List.map_nil]); first | done | rfl | (simp only [List.length_drop, List.length_take]; rfl)) ?_; (with_reducible refine (impl_AppendChecksum.calls k t112 t113 t114 _ A12.out (HVt.out.on (by repeat (first | (with_reducible first | exact HB.out | apply below_alloc | apply pw_below_drewN | apply below_drew1) | exact HB.out | refine below_set ?_ (Aside0.out (by assumption)))))).mono ?_); rintro e w22 ⟨rfl, hb⟩; refine ⟨_, rfl, ?_⟩; have n0_ := Aside0.mk (below_step (by repeat (first | (with_reducible first | exact HB.out | apply below_alloc | apply pw_below_drewN | apply below_drew1) | exact HB.out)) hb); clear HB; have HB := n0_; clear n0_; (try clear hb); (try clear hb2); (try clear hk); (try clear hi)) | ((with_reducible refine gate_callee (f := 13) rfl ?_); refine goesL_ (some 61) rfl rfl Tryd.func13 (by kernel_rfl) rfl #[.string t112] rfl (by (try simp only [List.map_toArray, List.map_cons, List.map_nil]); first | done | rfl | (simp only [List.length_drop, List.length_take]; rfl)) ?_; (with_reducible refine (spec_AppendChecksum.calls k t112 t115 t116 _ A13.out).mono ?_); rintro e w23 ⟨rfl, hb⟩; refine ⟨_, rfl, ?_⟩; have n0_ := Aside0.mk (below_step (by repeat (first | (with_reducible first | exact HB.out | apply below_alloc | apply pw_below_drewN | apply below_drew1) | exact HB.out)) hb); clear HB; have HB := n0_; clear n0_; (try clear hb); (try clear hb2); (try clear hk); (try clear hi)))
  (try simp only [Act.put, List.setIfInBounds_toArray, List.set_cons_zero, List.set_cons_succ])
  have H := HU14.out
  clear HU14
  have HC24 := Aside0.mk H
  clear H
  go_upto_region 12 with (fail)
  go_cut [91] (fun v91 wc => ∃ (kq : Nat) (x91_23 : Bool), v91 = .bool x91_23 ∧ Aside0 (laws_FnStrings.j0 kq l0 t102 t103 t104 t112 t113 t114 x91_23 = some r) ∧ Aside0 (kq ≤ k) ∧ Aside0 (Below w.heap.size w wc))
  case first =>
   have H := HC24.out
   clear HC24
   by_cases c25 : t103.toList = t105.toList
   ·rw [if_pos c25] at H
    have c25b0 : (t103.toList == t105.toList) = true := beq_iff_eq.mpr c25
    have c25b1 : (t103.toList != t105.toList) = false := bne_eq_false_iff_eq.mpr c25
    clear c25
    (first | rw [c25b0] | (simp only [i64_w, i32_w]; rw [c25b0]) | rw [c25b1] | skip)
    by_cases c26 : (t104 != t106) = true
    ·rw [if_pos c26] at H
     have c26b0 : (t104 != t106) = true := c26
     (try (have c26b1 : decide (t104 = t106) = false := by simpa using c26))
     (try (have c26b2 : (t104 == t106) = false := by simpa using c26))
     (try (have c26b3 : ¬ (t104 = t106) := by simpa using c26))
     (try (have c26b4 : (!(t104 == t106)) = true := by simpa using c26))
     clear c26
     first | exact (laws_FnStrings.j0_true H).elim | exact (laws_FnStrings.j1_true H).elim
    ·rw [if_neg c26] at H
     have c26b0 : (t104 != t106) = false := by simpa using c26
     (try (have c26b1 : decide (t104 = t106) = true := by simpa using c26))
     (try (have c26b2 : (t104 == t106) = true := by simpa using c26))
     (try (have c26b3 : (!(t104 == t106)) = false := by simpa using c26))
     clear c26
     by_cases c27 : t108 = t110
     ·rw [if_pos c27] at H
      have c27b0 : (t108 == t110) = true := beq_iff_eq.mpr c27
      have c27b1 : (t108 != t110) = false := bne_eq_false_iff_eq.mpr c27
      clear c27
      by_cases c28 : (t109 != t111) = true
      ·rw [if_pos c28] at H
       have c28b0 : (t109 != t111) = true := c28
       (try (have c28b1 : decide (t109 = t111) = false := by simpa using c28))
       (try (have c28b2 : (t109 == t111) = false := by simpa using c28))
       (try (have c28b3 : ¬ (t109 = t111) := by simpa using c28))
       (try (have c28b4 : (!(t109 == t111)) = true := by simpa using c28))
       clear c28
       first | exact (laws_FnStrings.j0_true H).elim | exact (laws_FnStrings.j1_true H).elim
      ·rw [if_neg c28] at H
       have c28b0 : (t109 != t111) = false := by simpa using c28
       (try (have c28b1 : decide (t109 = t111) = true := by simpa using c28))
       (try (have c28b2 : (t109 == t111) = true := by simpa using c28))
       (try (have c28b3 : (!(t109 == t111)) = false := by simpa using c28))
       clear c28
       by_cases c29 : t113.toList = t115.toList
       ·rw [if_pos c29] at H
        have c29b0 : (t113.toList == t115.toList) = true := beq_iff_eq.mpr c29
        have c29b1 : (t113.toList != t115.toList) = false := bne_eq_false_iff_eq.mpr c29
        clear c29
        have H' := Aside0.mk H
        clear H
        go_wp2
        go_meet
        case rel => exact ⟨_, ((t114 != t116)), (by first | rfl | (simp; done) | (simp [*]; done)), H', ⟨by first | omega | exact Nat.le_refl _⟩, ⟨by repeat (first | (with_reducible first | exact HB.out | apply below_alloc | apply pw_below_drewN | apply below_drew1) | exact HB.out)⟩⟩
       ·rw [if_neg c29] at H
        have c29b0 : (t113.toList == t115.toList) = false := beq_eq_false_iff_ne.mpr c29
        have c29b1 : (t113.toList != t115.toList) = true := bne_iff_ne.mpr c29
        first | exact (laws_FnStrings.j0_true H).elim | exact (laws_FnStrings.j1_true H).elim
     ·rw [if_neg c27] at H
      have c27b0 : (t108 == t110) = false := beq_eq_false_iff_ne.mpr c27
      have c27b1 : (t108 != t110) = true := bne_iff_ne.mpr c27
      first | exact (laws_FnStrings.j0_true H).elim | exact (laws_FnStrings.j1_true H).elim
   ·rw [if_neg c25] at H
    have c25b0 : (t103.toList == t105.toList) = false := beq_eq_false_iff_ne.mpr c25
    have c25b1 : (t103.toList != t105.toList) = true := bne_iff_ne.mpr c25
    (first | rw [c25b0] | (simp only [i64_w, i32_w]; rw [c25b0]) | rw [c25b1] | skip)
    first | exact (laws_FnStrings.j0_true H).elim | exact (laws_FnStrings.j1_true H).elim
  case rest =>
   clear HC24
   try clear c1
   try clear c2
   try clear p2
   try clear c3
   try clear c4
   try clear c5
   try clear c6
   try clear c7
   try clear c8
   try clear c9
   try clear c10
   try clear c11
   try clear c12
   try clear c13
   try clear c25
   try clear c25b0
   try clear c25b1
   try clear c26
   try clear c26b0
   try clear c26b1
   try clear c26b2
   try clear c27
   try clear c27b0
   try clear c27b1
   try clear c28
   try clear c28b0
   try clear c28b1
   try clear c28b2
   try clear c29
   try clear c29b0
   try clear c29b1
   obtain ⟨kq, x91_23, rfl, HA, HJ23, HB⟩ := hcut
   cases kq with
   | zero => exact absurd HA.out (by simp [laws_FnStrings.j0])
   | succ kj23 =>
    have H := HA.out
    clear HA
    simp only [laws_FnStrings.j0] at H
    by_cases c30 : x91_23 = true
    ·subst c30
     have H1 : (none) = some r := by rw [if_pos rfl] at H; exact H
     clear H
     have H := H1
     clear H1
     exact absurd H (by simp)
    ·replace c30 := Bool.eq_false_iff.mpr c30
     subst c30
     have H1 : ((impl_ParseInt.f t103).bind fun bt117 => (if t104 = true then (if bt117.2 = true then (laws_FnStrings.j1 kj23 l0 t112 t113 t114 (bt117.1 != t102)) else (laws_FnStrings.j1 kj23 l0 t112 t113 t114 true)) else (laws_FnStrings.j1 kj23 l0 t112 t113 t114 false))) = some r := by rw [if_neg (show ¬ (false = true) by decide)] at H; exact H
     clear H
     have H := H1
     clear H1
     replace H := Option.bind_eq_some_iff.mp H
     obtain ⟨⟨t117, t118⟩, A310, H⟩ := H
     replace H : (if t104 = true then (if t118 = true then (laws_FnStrings.j1 kj23 l0 t112 t113 t114 (t117 != t102)) else (laws_FnStrings.j1 kj23 l0 t112 t113 t114 true)) else (laws_FnStrings.j1 kj23 l0 t112 t113 t114 false)) = some r := H
     have A31 := Aside0.mk A310
     clear A310
     have HU32 := Aside0.mk H
     clear H
     go_upto_region 15 with (first | ((with_reducible refine gate_callee (f := 9) rfl ?_); refine goesL_ (some 94) rfl rfl Tryd.func9 (by kernel_rfl) rfl #[.string t103] rfl (by (try simp only [List.map_toArray, List.map_cons, List.map_nil]); first | done | rfl | (simp only [List.length_drop, List.length_take]; rfl)) ?_; (with_reducible refine (impl_ParseInt.calls t103 t117 t118 _ A31.out (HVt.out.on (by repeat (first | (with_reducible first | exact HB.out | apply below_alloc | apply pw_below_drewN | apply below_drew1) | exact HB.out | refine below_set ?_ (Aside0.out (by assumption))))) (HVe.out.on (by repeat (first | (with_reducible first | exact HB.out | apply below_alloc | apply pw_below_drewN | apply below_drew1) | exact HB.out | refine below_set ?_ (Aside0.out (by assumption)))))).mono ?_); rintro e w33 ⟨rfl, hb⟩; refine ⟨_, rfl, ?_⟩; have n0_ := Aside0.mk (below_step (by repeat (first | (with_reducible first | exact HB.out | apply below_alloc | apply pw_below_drewN | apply below_drew1) | exact HB.out)) hb); clear HB; have HB := n0_; clear n0_; (try clear hb); (try clear hb2); (try clear hk); (try clear hi)))
     (try simp only [Act.put, List.setIfInBounds_toArray, List.set_cons_zero, List.set_cons_succ])
     have H := HU32.out
     clear HU32
     have HC34 := Aside0.mk H
     clear H
     go_upto_region 15 with (fail)
     go_cut [106] (fun v106 wc => ∃ (kq : Nat) (x106_33 : Bool), v106 = .bool x106_33 ∧ Aside0 (laws_FnStrings.j1 kq l0 t112 t113 t114 x106_33 = some r) ∧ Aside0 (kq ≤ kj23) ∧ Aside0 (Below w.heap.size w wc))
     case first =>
      have H := HC34.out
      clear HC34
      by_cases c35 : t104 = true
      ·subst c35
       have H1 : (if t118 = true then (laws_FnStrings.j1 kj23 l0 t112 t113 t114 (t117 != t102)) else (laws_FnStrings.j1 kj23 l0 t112 t113 t114 true)) = some r := by rw [if_pos rfl] at H; exact H
       clear H
       have H := H1
       clear H1
       by_cases c36 : t118 = true
       ·subst c36
        have H1 : (laws_FnStrings.j1 kj23 l0 t112 t113 t114 (t117 != t102)) = some r := by rw [if_pos rfl] at H; exact H
        clear H
        have H := H1
        clear H1
        have H' := Aside0.mk H
        clear H
        go_wp2
        go_meet
        case rel => exact ⟨_, ((t117 != t102)), (by first | rfl | (simp; done) | (simp [*]; done)), H', ⟨by have := HJ23.out; first | omega | exact Nat.le_refl _⟩, ⟨by repeat (first | (with_reducible first | exact HB.out | apply below_alloc | apply pw_below_drewN | apply below_drew1) | exact HB.out)⟩⟩
       ·replace c36 := Bool.eq_false_iff.mpr c36
        subst c36
        have H1 : (laws_FnStrings.j1 kj23 l0 t112 t113 t114 true) = some r := by rw [if_neg (show ¬ (false = true) by decide)] at H; exact H
        clear H
        have H := H1
        clear H1
        first | exact (laws_FnStrings.j0_true H).elim | exact (laws_FnStrings.j1_true H).elim
      ·replace c35 := Bool.eq_false_iff.mpr c35
       subst c35
       have H1 : (laws_FnStrings.j1 kj23 l0 t112 t113 t114 false) = some r := by rw [if_neg (show ¬ (false = true) by decide)] at H; exact H
       clear H
       have H := H1
       clear H1
       have H' := Aside0.mk H
       clear H
       go_wp2
       go_meet
       case rel => exact ⟨_, (false), (by first | rfl | (simp; done) | (simp [*]; done)), H', ⟨by have := HJ23.out; first | omega | exact Nat.le_refl _⟩, ⟨by repeat (first | (with_reducible first | exact HB.out | apply below_alloc | apply pw_below_drewN | apply below_drew1) | exact HB.out)⟩⟩
     case rest =>
      clear HC34
      try clear c1
      try clear c2
      try clear p2
      try clear c3
      try clear c4
      try clear c5
      try clear c6
      try clear c7
      try clear c8
      try clear c9
      try clear c10
      try clear c11
      try clear c12
      try clear c13
      try clear c25
      try clear c25b0
      try clear c25b1
      try clear c26
      try clear c26b0
      try clear c26b1
      try clear c26b2
      try clear c27
      try clear c27b0
      try clear c27b1
      try clear c28
      try clear c28b0
      try clear c28b1
      try clear c28b2
      try clear c29
      try clear c29b0
      try clear c29b1
      try clear c30
      try clear c35
      try clear c36
      try clear p2
      obtain ⟨kq, x106_33, rfl, HA, HJ33, HB⟩ := hcut
      cases kq with
      | zero => exact absurd HA.out (by simp [laws_FnStrings.j1])
      | succ kj33 =>
       have H := HA.out
       clear HA
       simp only [laws_FnStrings.j1] at H
       by_cases c37 : x106_33 = true
       ·subst c37
        have H1 : (none) = some r := by rw [if_pos rfl] at H; exact H
        clear H
        have H := H1
        clear H1
        exact absurd H (by simp)
       ·replace c37 := Bool.eq_false_iff.mpr c37
        subst c37
        have H1 : (if t114 = true then ((impl_VerifyChecksum.f kj33 t113).bind fun bt119 => ((some (bytesOf t113 : List Int)).bind fun y121 => ((laws_vAt.f l0 9).bind fun t124 => (if (y121.length : Int) = 0 then (none) else (if 0 ≤ (Int.tmod t124 (y121.length : Int)) then (if (Int.tmod t124 (y121.length : Int)) < (y121.length : Int) then ((laws_vAt.f l0 10).bind fun t126 => ((impl_VerifyChecksum.f kj33 (strOfNums (y121.set ((Int.tmod t124 (y121.length : Int)) : Int).toNat (Go.bits .xor .u8 (rd y121 (Int.tmod t124 (y121.length : Int))) ((wrap64 (1 + (Int.tmod t126 255))) % 256))))).bind fun bt128 => (if bt119.2 = true then (if bt119.1.toList = t112.toList then (some (!bt128.2)) else (none)) else (none)))) else (none)) else (none)))))) else (some (t113.toList == ([] : List UInt8)))) = some r := by rw [if_neg (show ¬ (false = true) by decide)] at H; exact H
        clear H
        have H := H1
        clear H1
        by_cases c38 : t114 = true
        ·subst c38
         have H1 : ((impl_VerifyChecksum.f kj33 t113).bind fun bt119 => ((some (bytesOf t113 : List Int)).bind fun y121 => ((laws_vAt.f l0 9).bind fun t124 => (if (y121.length : Int) = 0 then (none) else (if 0 ≤ (Int.tmod t124 (y121.length : Int)) then (if (Int.tmod t124 (y121.length : Int)) < (y121.length : Int) then ((laws_vAt.f l0 10).bind fun t126 => ((impl_VerifyChecksum.f kj33 (strOfNums (y121.set ((Int.tmod t124 (y121.length : Int)) : Int).toNat (Go.bits .xor .u8 (rd y121 (Int.tmod t124 (y121.length : Int))) ((wrap64 (1 + (Int.tmod t126 255))) % 256))))).bind fun bt128 => (if bt119.2 = true then (if bt119.1.toList = t112.toList then (some (!bt128.2)) else (none)) else (none)))) else (none)) else (none)))))) = some r := by rw [if_pos rfl] at H; exact H
         clear H
         have H := H1
         clear H1
         replace H := Option.bind_eq_some_iff.mp H
         obtain ⟨⟨t119, t120⟩, A390, H⟩ := H
         replace H : ((some (bytesOf t113 : List Int)).bind fun y121 => ((laws_vAt.f l0 9).bind fun t124 => (if (y121.length : Int) = 0 then (none) else (if 0 ≤ (Int.tmod t124 (y121.length : Int)) then (if (Int.tmod t124 (y121.length : Int)) < (y121.length : Int) then ((laws_vAt.f l0 10).bind fun t126 => ((impl_VerifyChecksum.f kj33 (strOfNums (y121.set ((Int.tmod t124 (y121.length : Int)) : Int).toNat (Go.bits .xor .u8 (rd y121 (Int.tmod t124 (y121.length : Int))) ((wrap64 (1 + (Int.tmod t126 255))) % 256))))).bind fun bt128 => (if t120 = true then (if t119.toList = t112.toList then (some (!bt128.2)) else (none)) else (none)))) else (none)) else (none))))) = some r := H
         have A39 := Aside0.mk A390
         clear A390
         obtain ⟨y121, hy121⟩ : ∃ y_ : List Int, y_ = (bytesOf t113) := ⟨_, rfl⟩
         replace H : ((laws_vAt.f l0 9).bind fun t124 => (if (y121.length : Int) = 0 then (none) else (if 0 ≤ (Int.tmod t124 (y121.length : Int)) then (if (Int.tmod t124 (y121.length : Int)) < (y121.length : Int) then ((laws_vAt.f l0 10).bind fun t126 => ((impl_VerifyChecksum.f kj33 (strOfNums (y121.set ((Int.tmod t124 (y121.length : Int)) : Int).toNat (Go.bits .xor .u8 (rd y121 (Int.tmod t124 (y121.length : Int))) ((wrap64 (1 + (Int.tmod t126 255))) % 256))))).bind fun bt128 => (if t120 = true then (if t119.toList = t112.toList then (some (!bt128.2)) else (none)) else (none)))) else (none)) else (none)))) = some r := by first | (rw [hy121]; with_reducible exact H) | (have H2_ := (Option.bind_some _ _).symm.trans H; rw [hy121]; with_reducible exact H2_) | (have H2_ := (Option.bind_some _ _).symm.trans H; with_reducible exact H2_) | with_reducible exact H | (rw [hy121]; exact H) | exact H
         have Ny121 := Aside0.mk hy121
         clear hy121
         replace H := Option.bind_eq_some_iff.mp H
         obtain ⟨t124, A400, H⟩ := H
         replace H : (if (y121.length : Int) = 0 then (none) else (if 0 ≤ (Int.tmod t124 (y121.length : Int)) then (if (Int.tmod t124 (y121.length : Int)) < (y121.length : Int) then ((laws_vAt.f l0 10).bind fun t126 => ((impl_VerifyChecksum.f kj33 (strOfNums (y121.set ((Int.tmod t124 (y121.length : Int)) : Int).toNat (Go.bits .xor .u8 (rd y121 (Int.tmod t124 (y121.length : Int))) ((wrap64 (1 + (Int.tmod t126 255))) % 256))))).bind fun bt128 => (if t120 = true then (if t119.toList = t112.toList then (some (!bt128.2)) else (none)) else (none)))) else (none)) else (none))) = some r := H
         have A40 := Aside0.mk A400
         clear A400
         by_cases c41 : (y121.length : Int) = 0
         ·rw [if_pos c41] at H
          exact absurd H (by simp)
         ·rw [if_neg c41] at H
          have c41b0 : ((y121.length : Int) == 0) = false := beq_eq_false_iff_ne.mpr c41
          have c41b1 : ((y121.length : Int) != 0) = true := bne_iff_ne.mpr c41
          have c41b2 : ¬ (y121 = []) := fun h_ => c41 (by rw [h_]; rfl)
          obtain ⟨ji42, hji42⟩ : ∃ j_ : Int, (Int.tmod t124 (y121.length : Int)) = j_ := ⟨_, rfl⟩
          replace H : (if 0 ≤ (ji42) then (if (ji42) < (y121.length : Int) then ((laws_vAt.f l0 10).bind fun t126 => ((impl_VerifyChecksum.f kj33 (strOfNums (y121.set ((ji42) : Int).toNat (Go.bits .xor .u8 (rd y121 (ji42)) ((wrap64 (1 + (Int.tmod t126 255))) % 256))))).bind fun bt128 => (if t120 = true then (if t119.toList = t112.toList then (some (!bt128.2)) else (none)) else (none)))) else (none)) else (none)) = some r := by first | (rw [hji42] at H; exact H) | (simp only [hji42] at H ⊢; exact H)
          (try rw [hji42] at A39)
          (try rw [hji42] at A40)
          by_cases c43 : 0 ≤ (ji42)
          ·rw [if_pos c43] at H
           have c43b0 : decide (0 ≤ (ji42)) = true := decide_eq_true c43
           clear c43
           by_cases c44 : (ji42) < (y121.length : Int)
           ·rw [if_pos c44] at H
            have c44b0 : decide ((ji42) < (y121.length : Int)) = true := decide_eq_true c44
            clear c44
            replace H := Option.bind_eq_some_iff.mp H
            obtain ⟨t126, A450, H⟩ := H
            replace H : ((impl_VerifyChecksum.f kj33 (strOfNums (y121.set ((ji42) : Int).toNat (Go.bits .xor .u8 (rd y121 (ji42)) ((wrap64 (1 + (Int.tmod t126 255))) % 256))))).bind fun bt128 => (if t120 = true then (if t119.toList = t112.toList then (some (!bt128.2)) else (none)) else (none))) = some r := H
            have A45 := Aside0.mk A450
            clear A450
            obtain ⟨y127, hy127⟩ : ∃ y_ : List Int, y_ = (y121.set ((ji42) : Int).toNat (Go.bits .xor .u8 (rd y121 (ji42)) ((wrap64 (1 + (Int.tmod t126 255))) % 256))) := ⟨_, rfl⟩
            replace H : ((impl_VerifyChecksum.f kj33 (strOfNums y127)).bind fun bt128 => (if t120 = true then (if t119.toList = t112.toList then (some (!bt128.2)) else (none)) else (none))) = some r := by first | (rw [hy127]; with_reducible exact H) | (have H2_ := (Option.bind_some _ _).symm.trans H; rw [hy127]; with_reducible exact H2_) | (have H2_ := (Option.bind_some _ _).symm.trans H; with_reducible exact H2_) | with_reducible exact H | (rw [hy127]; exact H) | exact H
            have Ny127 := Aside0.mk hy127
            clear hy127
            replace H := Option.bind_eq_some_iff.mp H
            obtain ⟨⟨t128, t129⟩, A470, H⟩ := H
            replace H : (if t120 = true then (if t119.toList = t112.toList then (some (!t129)) else (none)) else (none)) = some r := H
            have A47 := Aside0.mk A470
            clear A470
            have HU48 := Aside0.mk H
            clear H
            try go_wp2_with (first | ((with_reducible refine gate_callee (f := 14) rfl ?_); refine goesL_ (some 113) rfl rfl Tryd.func14 (by kernel_rfl) rfl #[.string t113] rfl (by (try simp only [List.map_toArray, List.map_cons, List.map_nil]); first | done | rfl | (simp only [List.length_drop, List.length_take]; rfl)) ?_; (with_reducible refine (impl_VerifyChecksum.calls kj33 t113 t119 t120 _ A39.out (HVt.out.on (by repeat (first | (with_reducible first | exact HB.out | apply below_alloc | apply pw_below_drewN | apply below_drew1) | exact HB.out | refine below_set ?_ (Aside0.out (by assumption))))) (HVm.out.on (by repeat (first | (with_reducible first | exact HB.out | apply below_alloc | apply pw_below_drewN | apply below_drew1) | exact HB.out | refine below_set ?_ (Aside0.out (by assumption)))))).mono ?_); rintro e w49 ⟨rfl, hb⟩; refine ⟨_, rfl, ?_⟩; have n0_ := Aside0.mk (below_step (by repeat (first | (with_reducible first | exact HB.out | apply below_alloc | apply pw_below_drewN | apply below_drew1) | exact HB.out)) hb); clear HB; have HB := n0_; clear n0_; (try clear hb); (try clear hb2); (try clear hk); (try clear hi)) | ((with_reducible refine gate_dst (N := 117) rfl ?_); refine RB_conv ?hg t113 ?hr ?_; (case hg => rfl); (case hr => have hc_ := fun W_ => Lib.run_convert_string_bytes (P := Tryd.prog) W_ 9 22 5 t113 Tryd.underlying9 Tryd.underlying22 Tryd.underlying5; go_simp); intro v122 w50 ho51 hb; rw [← Ny121.out] at ho51; have n0_ := Aside0.mk (RB.lower ho51 (below_size (by repeat (first | (with_reducible first | exact HB.out | apply below_alloc | apply pw_below_drewN | apply below_drew1) | exact HB.out)))); have n1_ := Aside0.mk (below_step (by repeat (first | (with_reducible first | exact HB.out | apply below_alloc | apply pw_below_drewN | apply below_drew1) | exact HB.out)) hb); clear HB; have HO123 := n0_; have HB := n1_; clear n0_ n1_; clear hb ho51) | ((with_reducible refine gate_callee (f := 15) rfl ?_); refine goesL_ (some 119) rfl rfl Tryd.func15 (by kernel_rfl) rfl #[.slice A0 l0.length c0, .int .i64 9] rfl (by (try simp only [List.map_toArray, List.map_cons, List.map_nil]); first | done | rfl | (simp only [List.length_drop, List.length_take]; rfl)) ?_; (with_reducible refine (laws_vAt.calls _ _ l0 9 t124 _ ?side1 ?side2 A40.out).mono ?_); (case side1 => repeat (first | exact (Kd.C_below HR0.out HB.out) | (with_reducible refine Kd.C_alloc ?_ _) | (with_reducible refine Kd.C_drewN ?_ _) | (with_reducible refine Kd.C_drew ?_))); (case side2 => exact HC0.out); rintro e w' ⟨rfl, ⟨nd, rfl⟩⟩; refine ⟨_, rfl, ?_⟩; (try (rw [drewN_self w50]; generalize hq_ : World.drewN w50 _ = w50; have n0_ : Aside0 (RB w50 w.heap.size v122 y121) := ⟨by rw [← hq_]; exact (by (with_reducible repeat (first | apply RB.drewN | apply RB.drew)); exact HO123.out)⟩; have n1_ : Aside0 (Below w.heap.size w w50) := ⟨by rw [← hq_]; exact (by repeat (first | (with_reducible first | exact HB.out | apply below_alloc | apply pw_below_drewN | apply below_drew1) | exact HB.out))⟩; clear HO123 HB hq_; have HO123 := n0_; have HB := n1_; clear n0_ n1_)); obtain ⟨Ao52, co52, eo52⟩ := RB.slice HO123.out; subst eo52))
            have n0_ := Aside0.mk (RB.drew HO123.out)
            have n1_ := Aside0.mk (below_drew1 HB.out)
            clear HO123
            clear HB
            have HO123 := n0_
            have HB := n1_
            clear n0_ n1_
            have p125 : 0 ≤ ((ji42) : Int) := of_decide_eq_true (by first | (with_reducible assumption) | assumption)
            have q125 : (ji42) < (y121.length : Int) := of_decide_eq_true (by first | (with_reducible assumption) | assumption)
            obtain ⟨ad125, e125, hx125_0⟩ := RB.at HO123.out (ji42) p125 q125
            cases e125
            replace p125 := eq_true p125
            replace q125 := eq_true q125
            refine start_ (n := 14) (S := fun w' => w'.cell? (ad125.add ((ji42)).toNat) = some (.int .u8 (rd y121 (ji42)))) (ds := [13]) #[false, false, false, false, false, false, false, false, false, false, false, false, false, false] (by kernel_rfl) rfl rfl (hx125_0) (fun hHeld => ?_); refine with_tabW laws_FnStrings.tab22 laws_FnStrings.bits22 (fun HT_ HW_ => ?_)
            generalize w50.drew = w53 at HO123 HB hx125_0 hHeld ⊢
            refine pure_ (i := 0) (N := some 123) (v := ?_) (a' := ?_) #[true, false, false, false, false, false, false, false, false, false, false, false, false, false] rfl rfl (any_of HT_.out (by kernel_rfl)) (fun _ _ _ h => h) (Or.inl ⟨by rfl, ?_⟩) ?_ ?_
            rotate_left
            ·intro w'
             go_simp
             with_reducible rfl
            rotate_left
            ·simp only [Act.put, List.setIfInBounds_toArray, List.set_cons_zero, List.set_cons_succ, i64_w, i32_w]
             rfl
            refine pure_ (i := 1) (N := some 124) (v := ?_) (a' := ?_) #[true, true, false, false, false, false, false, false, false, false, false, false, false, false] rfl rfl (any_of HT_.out (by kernel_rfl)) (fun _ _ _ h => h) (Or.inl ⟨by rfl, ?_⟩) ?_ ?_
            rotate_left
            ·intro w'
             go_simp
             with_reducible rfl
            rotate_left
            ·simp only [Act.put, List.setIfInBounds_toArray, List.set_cons_zero, List.set_cons_succ, i64_w, i32_w]
             rfl
            refine pure_ (i := 2) (N := some 125) (v := ?_) (a' := ?_) #[true, true, true, false, false, false, false, false, false, false, false, false, false, false] rfl rfl (any_of HT_.out (by kernel_rfl)) (fun _ _ _ h => h) (Or.inl ⟨by rfl, ?_⟩) ?_ ?_
            rotate_left
            ·intro w'
             go_simp
             with_reducible rfl
            rotate_left
            ·simp only [Act.put, List.setIfInBounds_toArray, List.set_cons_zero, List.set_cons_succ, i64_w, i32_w]
             rfl
            refine pure_ (i := 3) (N := some 126) (v := ?_) (a' := ?_) #[true, true, true, true, false, false, false, false, false, false, false, false, false, false] rfl rfl (any_of HT_.out (by kernel_rfl)) (fun _ _ _ h => h) (Or.inl ⟨by rfl, ?_⟩) ?_ ?_
            rotate_left
            ·intro w'
             go_simp
             with_reducible rfl
            rotate_left
            ·simp only [Act.put, List.setIfInBounds_toArray, List.set_cons_zero, List.set_cons_succ, i64_w, i32_w]
             rfl
            refine pure_ (i := 4) (N := some 127) (v := ?_) (a' := ?_) #[true, true, true, true, true, false, false, false, false, false, false, false, false, false] rfl rfl (any_of HT_.out (by kernel_rfl)) (fun _ _ _ h => h) (Or.inl ⟨by rfl, ?_⟩) ?_ ?_
            rotate_left
            ·intro w'
             go_simp
             with_reducible rfl
            rotate_left
            ·simp only [Act.put, List.setIfInBounds_toArray, List.set_cons_zero, List.set_cons_succ, i64_w, i32_w]
             rfl
            refine pure_ (i := 6) (N := some 129) (v := ?_) (a' := ?_) #[true, true, true, true, true, false, true, false, false, false, false, false, false, false] rfl rfl (any_of HT_.out (by kernel_rfl)) (fun _ _ _ h => h) (Or.inl ⟨by rfl, ?_⟩) ?_ ?_
            rotate_left
            ·intro w'
             go_simp
             with_reducible rfl
            rotate_left
            ·simp only [Act.put, List.setIfInBounds_toArray, List.set_cons_zero, List.set_cons_succ, i64_w, i32_w]
             rfl
            refine take_ (i := 5) (N := some 128) (v := ?_) (a' := ?_) #[true, true, true, true, true, true, true, false, false, false, false, false, false, false] rfl rfl (take_ofW HT_.out HW_.out (by kernel_rfl)) (fun _ _ _ h => h) (Or.inl ⟨by rfl, ?_⟩) hHeld ?_ ?_
            rotate_left
            ·intro w' s0
             go_simp
             with_reducible rfl
            rotate_left
            ·simp only [Act.put, List.setIfInBounds_toArray, List.set_cons_zero, List.set_cons_succ, i64_w, i32_w]
             rfl
            refine one_ (i := 7) (N := some 130) #[true, true, true, true, true, true, true, true, false, false, false, false, false, false] rfl rfl (one_of HT_.out (by kernel_rfl)) (by decide) (fun K hK => ?_)
            refine goes_ Tryd.func15 (by kernel_rfl) rfl #[.slice A0 l0.length c0, .int .i64 10] (by rfl) rfl rfl (by (try simp only [List.map_toArray, List.map_cons, List.map_nil]); first | done | rfl | (simp only [List.length_drop, List.length_take]; rfl)) ?_
            with_reducible refine (laws_vAt.calls _ _ l0 10 t126 _ ?side1 ?side2 A45.out).mono ?_
            (case side1 => repeat (first | exact (Kd.C_below HR0.out HB.out) | (with_reducible refine Kd.C_alloc ?_ _) | (with_reducible refine Kd.C_drewN ?_ _) | (with_reducible refine Kd.C_drew ?_)))
            (case side2 => exact HC0.out)
            rintro e w' ⟨rfl, ⟨nd, rfl⟩⟩
            refine ⟨_, rfl, ?_⟩
            have p46 : 0 ≤ ((ji42) : Int) := of_decide_eq_true (by first | (with_reducible assumption) | assumption)
            have q46 : ((ji42) : Int) < ((y121.length : Int) : Int) := of_decide_eq_true (by first | (with_reducible assumption) | assumption)
            obtain ⟨go46, co46, eo46, gb46, gl46⟩ := RB.form HO123.out
            (first | cases eo46 | (injection eo46 with ea_ en_ ec_; (first | subst ea_ | (injection ea_ with ea_; subst ea_)); subst ec_; clear en_))
            have GB46 := Aside0.mk gb46
            clear gb46 gl46
            (first | simp only [add_plain] at hx125_0 | skip)
            obtain ⟨hx46_0, hf46_0⟩ := RB.cell HO123.out ((ji42) : Int) p46 q46
            replace p46 := eq_true p46
            replace q46 := eq_true q46
            have HP54 := RB.put HO123.out ((ji42) : Int) (of_eq_true p46) (of_eq_true q46) (Go.bits .xor .u8 (rd y121 (ji42)) ((wrap64 (1 + (Int.tmod t126 255))) % 256))
            rw [← Ny127.out] at HP54
            have HQ54 := Aside0.mk HP54
            clear HP54
            refine hK.out _ _ (hHeld) (fun hHeld => ?_)
            clear hK K
            refine norm_ (a' := ?_) ?_ ?_
            rotate_left
            ·show Act.put _ (some 130) _ = _
             simp only [Act.put, List.setIfInBounds_toArray, List.set_cons_zero, List.set_cons_succ, i64_w, i32_w]
             rfl
            refine pure_ (i := 8) (N := some 131) (v := ?_) (a' := ?_) #[true, true, true, true, true, true, true, true, true, false, false, false, false, false] rfl rfl (any_of HT_.out (by kernel_rfl)) (fun _ _ _ h => h) (Or.inl ⟨by rfl, ?_⟩) ?_ ?_
            rotate_left
            ·intro w'
             go_simp
             with_reducible rfl
            rotate_left
            ·simp only [Act.put, List.setIfInBounds_toArray, List.set_cons_zero, List.set_cons_succ, i64_w, i32_w]
             rfl
            refine pure_ (i := 9) (N := some 132) (v := ?_) (a' := ?_) #[true, true, true, true, true, true, true, true, true, true, false, false, false, false] rfl rfl (any_of HT_.out (by kernel_rfl)) (fun _ _ _ h => h) (Or.inl ⟨by rfl, ?_⟩) ?_ ?_
            rotate_left
            ·intro w'
             go_simp
             with_reducible rfl
            rotate_left
            ·simp only [Act.put, List.setIfInBounds_toArray, List.set_cons_zero, List.set_cons_succ, i64_w, i32_w]
             rfl
            refine pure_ (i := 10) (N := some 133) (v := ?_) (a' := ?_) #[true, true, true, true, true, true, true, true, true, true, true, false, false, false] rfl rfl (any_of HT_.out (by kernel_rfl)) (fun _ _ _ h => h) (Or.inl ⟨by rfl, ?_⟩) ?_ ?_
            rotate_left
            ·intro w'
             go_simp
             with_reducible rfl
            rotate_left
            ·simp only [Act.put, List.setIfInBounds_toArray, List.set_cons_zero, List.set_cons_succ, i64_w, i32_w]
             rfl
            refine pure_ (i := 11) (N := some 134) (v := ?_) (a' := ?_) #[true, true, true, true, true, true, true, true, true, true, true, true, false, false] rfl rfl (any_of HT_.out (by kernel_rfl)) (fun _ _ _ h => h) (Or.inl ⟨by rfl, ?_⟩) ?_ ?_
            rotate_left
            ·intro w'
             go_simp
             with_reducible rfl
            rotate_left
            ·simp only [Act.put, List.setIfInBounds_toArray, List.set_cons_zero, List.set_cons_succ, i64_w, i32_w]
             rfl
            refine pure_ (i := 12) (N := some 135) (v := ?_) (a' := ?_) #[true, true, true, true, true, true, true, true, true, true, true, true, true, false] rfl rfl (any_of HT_.out (by kernel_rfl)) (fun _ _ _ h => h) (Or.inl ⟨by rfl, ?_⟩) ?_ ?_
            rotate_left
            ·intro w'
             go_simp
             with_reducible rfl
            rotate_left
            ·simp only [Act.put, List.setIfInBounds_toArray, List.set_cons_zero, List.set_cons_succ, i64_w, i32_w]
             rfl
            refine last_ (i := 13) (N := none) #[true, true, true, true, true, true, true, true, true, true, true, true, true, true] rfl rfl (one_of HT_.out (by kernel_rfl)) (by decide) (fun K hK => ?_)
            refine skip_ (w1 := ?_) (by rfl) rfl ?_ ?_
            rotate_left
            ·go_simp
             rfl
            refine hK.out _ _ ?_
            clear hK K
            refine done_ (done_of HT_.out (by kernel_rfl)) ?_
            have hcv55 := RB.string (show RB ((w53.drewN nd).setCell ⟨go46, (ji42 : Int).toNat, none⟩ (.int .u8 (Go.bits .xor .u8 (rd y121 (ji42)) (IntKind.u8.wrap (wrap64 (1 + (Int.tmod t126 255))))))) w.heap.size (.slice (some ⟨go46, 0, none⟩) y121.length co52) y127 from HQ54.out)
            go_upto_region 24 with (first | ((with_reducible refine gate_callee (f := 14) rfl ?_); refine goesL_ (some 139) rfl rfl Tryd.func14 (by kernel_rfl) rfl #[.string (strOfNums y127)] rfl (by (try simp only [List.map_toArray, List.map_cons, List.map_nil]); first | done | rfl | (simp only [List.length_drop, List.length_take]; rfl)) ?_; (with_reducible refine (impl_VerifyChecksum.calls kj33 (strOfNums y127) t128 t129 _ A47.out (HVt.out.on (by repeat (first | (with_reducible first | exact HB.out | apply below_alloc | apply pw_below_drewN | apply below_drew1) | exact HB.out | refine below_set ?_ (Aside0.out (by assumption))))) (HVm.out.on (by repeat (first | (with_reducible first | exact HB.out | apply below_alloc | apply pw_below_drewN | apply below_drew1) | exact HB.out | refine below_set ?_ (Aside0.out (by assumption)))))).mono ?_); rintro e w56 ⟨rfl, hb⟩; refine ⟨_, rfl, ?_⟩; have n1_ := Aside0.mk (below_step (by repeat (first | (with_reducible first | exact HB.out | apply below_alloc | apply pw_below_drewN | apply below_drew1 | refine below_set ?_ GB46.out) | exact HB.out)) hb); clear HB; have HB := n1_; clear n1_; (try clear hb); (try clear hb2); (try clear hk); (try clear hi)))
            (try simp only [Act.put, List.setIfInBounds_toArray, List.set_cons_zero, List.set_cons_succ])
            have H := HU48.out
            clear HU48
            by_cases c57 : t120 = true
            ·subst c57
             have H1 : (if t119.toList = t112.toList then (some (!t129)) else (none)) = some r := by rw [if_pos rfl] at H; exact H
             clear H
             have H := H1
             clear H1
             by_cases c58 : t119.toList = t112.toList
             ·rw [if_pos c58] at H
              have c58b0 : (t119.toList == t112.toList) = true := beq_iff_eq.mpr c58
              have c58b1 : (t119.toList != t112.toList) = false := bne_eq_false_iff_eq.mpr c58
              clear c58
              obtain rfl := Option.some.inj H
              go_wp2
              go_ret
              exact ⟨by first | rfl | (simp [errW_none, errW_some] <;> rfl) | (simp only [← hji42]; first | rfl | (simp [errW_none, errW_some] <;> rfl)) | (simp [*, errW_none, errW_some] <;> rfl), by repeat (first | (with_reducible first | exact HB.out | apply below_alloc | apply pw_below_drewN | apply below_drew1) | exact HB.out)⟩
             ·rw [if_neg c58] at H
              exact absurd H (by simp)
            ·replace c57 := Bool.eq_false_iff.mpr c57
             subst c57
             have H1 : (none) = some r := by rw [if_neg (show ¬ (false = true) by decide)] at H; exact H
             clear H
             have H := H1
             clear H1
             exact absurd H (by simp)
           ·rw [if_neg c44] at H
            exact absurd H (by simp)
          ·rw [if_neg c43] at H
           exact absurd H (by simp)
        ·replace c38 := Bool.eq_false_iff.mpr c38
         subst c38
         have H1 : (some (t113.toList == ([] : List UInt8))) = some r := by rw [if_neg (show ¬ (false = true) by decide)] at H; exact H
         clear H
         have H := H1
         clear H1
         obtain rfl := Option.some.inj H
         go_wp2
         go_ret
         exact ⟨by first | rfl | (simp [errW_none, errW_some] <;> rfl) | (simp [*, errW_none, errW_some] <;> rfl), by repeat (first | (with_reducible first | exact HB.out | apply below_alloc | apply pw_below_drewN | apply below_drew1) | exact HB.out)⟩
def laws_FnStrings.Pure : Prop := ∀ (l0 : List Int), l0.length ≤ maxLen → (∀ x ∈ l0, (Lit.int .u8 x).wf = true) → ∃ k, laws_FnStrings.f k l0 = some true

end Go.Proofs.YtagniekpapmdgaaDoor.P
