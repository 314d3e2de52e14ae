/- Functions of the program as Lean functions, that each call comes to what they say, and what holds of them; part 9 of 15; no conditions beyond those that each theorem names. -/
import Derived.Test.YtcjddikalgnhpaaK1
namespace Go.Proofs.Ytcjddikalgnhpaa.P
open Go.RowKit Go.Proofs.YtcjddikalgnhpaaW.PrintWords Go.Proofs.YtcjddikalgnhpaaW.PrintLast Go.Proofs.YtcjddikalgnhpaaW.PrintMore
attribute [local go_sem] max2_int min2_int max_two min_two max_three min_three max_four min_four   -- for this text's walks alone
set_option linter.unusedVariables false
set_option linter.unusedSimpArgs false
/-- A state of type 96 at block g of W; what its slices lead to came in by w0. -/
def IsS96 (w0 W : World) (g : Nat) (f0 : List Int) (f1 : Int) (f2 : Int) : Prop := ∃ A0 c0, W.heap[g]? = some (.cells #[.slice A0 f0.length c0, .int .i64 f1, .int .u64 f2] 96 (0, 0)) ∧ w0.heap.size ≤ g ∧ Kd.C (Kd.int .u8) w0 A0 f0.length f0
theorem IsS96.grown {w0 W : World} {g : Nat} {f0 : List Int} {f1 : Int} {f2 : Int} {W1 : World} {row : Option Nat} (h : IsS96 w0 W g f0 f1 f2) (hw : W.grownBy W1 row) (hne : some g ≠ row) : IsS96 w0 W1 g f0 f1 f2 := by
 obtain ⟨A0, c0, hb, hg, hr0⟩ := h
 exact ⟨A0, c0, blk_grown hb hw hne, hg, hr0⟩
theorem IsS96.own_neN {w0 W : World} {g : Nat} {f0 : List Int} {f1 : Int} {f2 : Int} {α : Type} {d : Kd α} {e : Nat} {base : Nat} {ok : Nat → Prop} {v : Value} {xs : List α} (h : IsS96 w0 W g f0 f1 f2) (ho : Kd.N d e W base ok v xs) (ht : e ≠ 96) : some g ≠ v.ownBlock := by
 obtain ⟨A0, c0, hb, hg, hr0⟩ := h
 exact Kd.N_ne ho hb ht
theorem IsS96.fresh {w0 W : World} {g : Nat} {f0 : List Int} {f1 : Int} {f2 : Int} (h : IsS96 w0 W g f0 f1 f2) : ∀ k, W.heap.size ≤ k → k ≠ g := by
 obtain ⟨A0, c0, hb, hg, hr0⟩ := h
 exact Kd.freshB hb
theorem IsS96.kept {w0 W : World} {g : Nat} {f0 : List Int} {f1 : Int} {f2 : Int} {W1 : World} {S : Nat → Prop} (h : IsS96 w0 W g f0 f1 f2) (hk : Kept W W1 S) (hne : ¬ S g) : IsS96 w0 W1 g f0 f1 f2 := by
 obtain ⟨A0, c0, hb, hg, hr0⟩ := h
 exact ⟨A0, c0, blk_kept hb hk hne, hg, hr0⟩
theorem IsS96.below {w0 W : World} {g : Nat} {f0 : List Int} {f1 : Int} {f2 : Int} {W1 : World} (h : IsS96 w0 W g f0 f1 f2) (hw : Below W.heap.size W W1) : IsS96 w0 W1 g f0 f1 f2 := h.grown (grown_of_below hw none) (by simp)
theorem IsS96.alloc {w0 W : World} {g : Nat} {f0 : List Int} {f1 : Int} {f2 : Int} (h : IsS96 w0 W g f0 f1 f2) (o : Obj) : IsS96 w0 (W.alloc o) g f0 f1 f2 := h.below (below_alloc (Below.refl _ _) o)
theorem IsS96.drewN {w0 W : World} {g : Nat} {f0 : List Int} {f1 : Int} {f2 : Int} (h : IsS96 w0 W g f0 f1 f2) (m : Nat) : IsS96 w0 (W.drewN m) g f0 f1 f2 := h
theorem IsS96.drew {w0 W : World} {g : Nat} {f0 : List Int} {f1 : Int} {f2 : Int} (h : IsS96 w0 W g f0 f1 f2) : IsS96 w0 W.drew g f0 f1 f2 := h
theorem IsS96.at_ {w0 W : World} {g : Nat} {f0 : List Int} {f1 : Int} {f2 : Int} {w' : World} {m : Nat} (hq : W.drewN m = w') (h : IsS96 w0 W g f0 f1 f2) : IsS96 w0 w' g f0 f1 f2 := by subst hq; exact IsS96.drewN h m
theorem IsS96.apart {w0 W : World} {g : Nat} {f0 : List Int} {f1 : Int} {f2 : Int} {α : Type} {d : Kd α} {e : Nat} {base : Nat} {ok : Nat → Prop} {v : Value} {xs : List α} (h : IsS96 w0 W g f0 f1 f2) (ho : d.R e W base ok v xs) (ht : ∀ q, q ∈ e :: d.E → q ≠ 96) : d.R e W base (fun k => ok k ∧ k ≠ g) v xs := by
 obtain ⟨A0, c0, hb, hg, hr0⟩ := h
 exact Kd.R_types ho hb ht
theorem IsS96.own_ne {w0 W : World} {g : Nat} {f0 : List Int} {f1 : Int} {f2 : Int} {α : Type} {d : Kd α} {e : Nat} {base : Nat} {ok : Nat → Prop} {v : Value} {xs : List α} (h : IsS96 w0 W g f0 f1 f2) (ho : d.R e W base ok v xs) (ht : e ≠ 96) : some g ≠ v.ownBlock := by
 obtain ⟨A0, c0, hb, hg, hr0⟩ := h
 exact Kd.R_ne ho hb ht
theorem IsS96.apartQ {w0 W : World} {g : Nat} {f0 : List Int} {f1 : Int} {f2 : Int} {α : Type} {d : Kd α} {e : Nat} {base : Nat} {ok : Nat → Prop} {v : Value} {xs : List α} (h : IsS96 w0 W g f0 f1 f2) (ho : d.Q e W base ok v xs) (ht : ∀ q, q ∈ e :: d.E → q ≠ 96) : d.Q e W base (fun k => ok k ∧ k ≠ g) v xs := by
 obtain ⟨A0, c0, hb, hg, hr0⟩ := h
 exact Kd.Q_types ho hb ht
theorem IsS96.own_neQ {w0 W : World} {g : Nat} {f0 : List Int} {f1 : Int} {f2 : Int} {α : Type} {d : Kd α} {e : Nat} {base : Nat} {ok : Nat → Prop} {v : Value} {xs : List α} (h : IsS96 w0 W g f0 f1 f2) (ho : d.Q e W base ok v xs) (ht : e ≠ 96) : some g ≠ v.ownBlock := by
 obtain ⟨A0, c0, hb, hg, hr0⟩ := h
 exact Kd.Q_ne ho hb ht
theorem IsS96.apartS {w0 W : World} {g : Nat} {f0 : List Int} {f1 : Int} {f2 : Int} {α : Type} {d : Kd α} {e : Nat} {base : Nat} {ok : Nat → Prop} {v : Value} {xs : List α} (h : IsS96 w0 W g f0 f1 f2) (ho : d.S e W base ok v xs) (ht : ∀ q, q ∈ e :: d.E → q ≠ 96) : d.S e W base (fun k => ok k ∧ k ≠ g) v xs := by
 obtain ⟨A0, c0, hb, hg, hr0⟩ := h
 exact Kd.S_types ho hb ht
theorem IsS96.own_neS {w0 W : World} {g : Nat} {f0 : List Int} {f1 : Int} {f2 : Int} {α : Type} {d : Kd α} {e : Nat} {base : Nat} {ok : Nat → Prop} {v : Value} {xs : List α} (h : IsS96 w0 W g f0 f1 f2) (ho : d.S e W base ok v xs) (ht : e ≠ 96) : some g ≠ v.ownBlock := by
 obtain ⟨A0, c0, hb, hg, hr0⟩ := h
 exact Kd.S_ne ho hb ht
theorem IsS96.lt {w0 W : World} {g : Nat} {f0 : List Int} {f1 : Int} {f2 : Int} (h : IsS96 w0 W g f0 f1 f2) : g < W.heap.size := by
 obtain ⟨A0, c0, hb, hg, hr0⟩ := h
 exact blk_lt hb
theorem IsS96.ge {w0 W : World} {g : Nat} {f0 : List Int} {f1 : Int} {f2 : Int} (h : IsS96 w0 W g f0 f1 f2) : w0.heap.size ≤ g := by
 obtain ⟨A0, c0, hb, hg, hr0⟩ := h
 exact hg
theorem IsS96.ne_blk {w0 W : World} {g : Nat} {f0 : List Int} {f1 : Int} {f2 : Int} {a : Nat} {cs : Array Value} {t : TypeId} {fr : Nat × Nat} (h : IsS96 w0 W g f0 f1 f2) (hb2 : W.heap[a]? = some (.cells cs t fr)) (ht : t ≠ 96) : g ≠ a := by
 obtain ⟨A0, c0, hb, hg, hr0⟩ := h
 rintro rfl
 rw [hb] at hb2
 injection hb2 with hb2
 injection hb2 with _ ht2
 exact ht ht2.symm
theorem IsS96.far {w0 W : World} {g : Nat} {f0 : List Int} {f1 : Int} {f2 : Int} {p : Addr} (h : IsS96 w0 W g f0 f1 f2) (hne : g ≠ p.block) (u : Value) : IsS96 w0 (W.setCell p u) g f0 f1 f2 := by
 obtain ⟨A0, c0, hb, hg, hr0⟩ := h
 exact ⟨A0, c0, blk_far hb hne u, hg, hr0⟩
theorem cellS96_0 {W : World} {g : Nat} {A0 : Option Addr} {c0 : Nat} {f0 : List Int} {f1 : Int} {f2 : Int} (h : W.heap[g]? = some (.cells #[.slice A0 f0.length c0, .int .i64 f1, .int .u64 f2] 96 (0, 0))) : W.cell? ⟨g, 0, none⟩ = some (.slice A0 f0.length c0) := (blk_cell h 0).trans rfl
theorem cellS96_1 {W : World} {g : Nat} {A0 : Option Addr} {c0 : Nat} {f0 : List Int} {f1 : Int} {f2 : Int} (h : W.heap[g]? = some (.cells #[.slice A0 f0.length c0, .int .i64 f1, .int .u64 f2] 96 (0, 0))) : W.cell? ⟨g, 1, none⟩ = some (.int .i64 f1) := (blk_cell h 1).trans rfl
theorem IsS96.set_1 {w0 W : World} {g : Nat} {f0 : List Int} {f1 : Int} {f2 : Int} (h : IsS96 w0 W g f0 f1 f2) (x : Int) : IsS96 w0 (W.setCell ⟨g, 1, none⟩ (.int .i64 x)) g f0 x f2 := by
 obtain ⟨A0, c0, hb, hg, hr0⟩ := h
 exact ⟨A0, c0, by simpa using blk_set hb 1 (.int .i64 x), hg, hr0⟩
theorem cellS96_2 {W : World} {g : Nat} {A0 : Option Addr} {c0 : Nat} {f0 : List Int} {f1 : Int} {f2 : Int} (h : W.heap[g]? = some (.cells #[.slice A0 f0.length c0, .int .i64 f1, .int .u64 f2] 96 (0, 0))) : W.cell? ⟨g, 2, none⟩ = some (.int .u64 f2) := (blk_cell h 2).trans rfl
theorem IsS96.set_2 {w0 W : World} {g : Nat} {f0 : List Int} {f1 : Int} {f2 : Int} (h : IsS96 w0 W g f0 f1 f2) (x : Int) : IsS96 w0 (W.setCell ⟨g, 2, none⟩ (.int .u64 x)) g f0 f1 x := by
 obtain ⟨A0, c0, hb, hg, hr0⟩ := h
 exact ⟨A0, c0, by simpa using blk_set hb 2 (.int .u64 x), hg, hr0⟩
theorem IsS96.new (w0 W : World) (A0 : Option Addr) (c0 : Nat) (f0 : List Int) (f1 : Int) (f2 : Int) (hB : Below w0.heap.size w0 W) (hr0 : Kd.C (Kd.int .u8) w0 A0 f0.length f0) : IsS96 w0 (W.alloc (.cells #[.slice A0 f0.length c0, .int .i64 f1, .int .u64 f2] 96)) W.heap.size f0 f1 f2 := ⟨A0, c0, by simpa using heap_alloc_new W _, hB.size, hr0⟩
/-! ### spec_l1Cur_next: function 197 -/
def spec_l1Cur_next.f (s0_0 : List Int) (s0_1 : Int) (s0_2 : Int) : Option (Int × Int × Int) := if s0_1 < (s0_0.length : Int) then (if 0 ≤ s0_1 then (if (wrap64 (s0_1 + 1)) ≤ (s0_0.length : Int) then (some (wrap64 (rd s0_0 s0_1), wrap64 (s0_1 + 1), IntKind.u64.wrap ((IntKind.u64.wrap ((IntKind.u64.wrap (s0_2 * 6364136223846793005)) + (IntKind.u64.wrap (wrap64 (rd s0_0 s0_1))))) + 462197))) else (some (wrap64 (Go.bits .and .u64 ((IntKind.u64.wrap ((IntKind.u64.wrap ((IntKind.u64.wrap (s0_2 * 6364136223846793005)) + (IntKind.u64.wrap (wrap64 (rd s0_0 s0_1))))) + 462197)) / 1099511627776) 255), wrap64 (s0_1 + 1), IntKind.u64.wrap ((IntKind.u64.wrap ((IntKind.u64.wrap (s0_2 * 6364136223846793005)) + (IntKind.u64.wrap (wrap64 (rd s0_0 s0_1))))) + 462197)))) else (none)) else (if (wrap64 (s0_1 + 1)) ≤ (s0_0.length : Int) then (some (0, wrap64 (s0_1 + 1), IntKind.u64.wrap ((IntKind.u64.wrap (IntKind.u64.wrap (s0_2 * 6364136223846793005))) + 462197))) else (some (wrap64 (Go.bits .and .u64 ((IntKind.u64.wrap ((IntKind.u64.wrap (IntKind.u64.wrap (s0_2 * 6364136223846793005))) + 462197)) / 1099511627776) 255), wrap64 (s0_1 + 1), IntKind.u64.wrap ((IntKind.u64.wrap (IntKind.u64.wrap (s0_2 * 6364136223846793005))) + 462197))))
set_option maxHeartbeats 8000000 in
set_option maxRecDepth 100000 in
theorem spec_l1Cur_next.calls (g : Nat) (s0_0 : List Int) (s0_1 : Int) (s0_2 : Int) (r1 : Int) (r2 : Int) (r3 : Int) (w0 w : World) (hI : IsS96 w0 w g s0_0 s0_1 s0_2) (hB : Below w0.heap.size w0 w) (h : spec_l1Cur_next.f s0_0 s0_1 s0_2 = some (r1, r2, r3)) :
  Calls Try.prog 197 #[.pointer (some ⟨g, 0, none⟩)] w fun e w' => e = .returned (.int .i64 r1) ∧ IsS96 w0 w' g s0_0 r2 r3 ∧ Below w0.heap.size w0 w' ∧ KeepBut w w' g none := by
 have HI0 := Aside0.mk hI
 have HK := am (KeepBut.refl w g none)
 have HL := Aside0.mk hB.size
 clear hI
 have HW0 := Aside0.mk hB.size
 have HB := Aside0.mk hB
 clear hB
 have H : (if s0_1 < (s0_0.length : Int) then (if 0 ≤ s0_1 then (if (wrap64 (s0_1 + 1)) ≤ (s0_0.length : Int) then (some (wrap64 (rd s0_0 s0_1), wrap64 (s0_1 + 1), IntKind.u64.wrap ((IntKind.u64.wrap ((IntKind.u64.wrap (s0_2 * 6364136223846793005)) + (IntKind.u64.wrap (wrap64 (rd s0_0 s0_1))))) + 462197))) else (some (wrap64 (Go.bits .and .u64 ((IntKind.u64.wrap ((IntKind.u64.wrap ((IntKind.u64.wrap (s0_2 * 6364136223846793005)) + (IntKind.u64.wrap (wrap64 (rd s0_0 s0_1))))) + 462197)) / 1099511627776) 255), wrap64 (s0_1 + 1), IntKind.u64.wrap ((IntKind.u64.wrap ((IntKind.u64.wrap (s0_2 * 6364136223846793005)) + (IntKind.u64.wrap (wrap64 (rd s0_0 s0_1))))) + 462197)))) else (none)) else (if (wrap64 (s0_1 + 1)) ≤ (s0_0.length : Int) then (some (0, wrap64 (s0_1 + 1), IntKind.u64.wrap ((IntKind.u64.wrap (IntKind.u64.wrap (s0_2 * 6364136223846793005))) + 462197))) else (some (wrap64 (Go.bits .and .u64 ((IntKind.u64.wrap ((IntKind.u64.wrap (IntKind.u64.wrap (s0_2 * 6364136223846793005))) + 462197)) / 1099511627776) 255), wrap64 (s0_1 + 1), IntKind.u64.wrap ((IntKind.u64.wrap (IntKind.u64.wrap (s0_2 * 6364136223846793005))) + 462197))))) = some (r1, r2, r3) := h
 clear h
 by_cases c2 : s0_1 < (s0_0.length : Int)
 ·rw [if_pos c2] at H
  have c2b0 := decide_eq_true c2; clear c2
  obtain ⟨c3, H⟩ := ifn H
  have c3b0 := decide_eq_true c3; clear c3; have HU4 := Aside0.mk H; clear H; obtain ⟨ASz5_0, cSz5_0, HGz5, hgz5, HSz5_0⟩ := HI0.out; have _ := cellS96_0 HGz5; have _ := cellS96_1 HGz5; have _ := cellS96_2 HGz5; have _ := blk_frozen HGz5 1; have _ := blk_frozen HGz5 2; clear HGz5 hgz5; have p101 : 0 ≤ (s0_1 : Int) := D4; have q101 : s0_1 < (s0_0.length : Int) := D4; obtain ⟨ad101, e101, hx101_0⟩ := Kd.at_int HSz5_0 s0_1 p101 q101
  cases e101
  replace hx101_0 := pw_cell_below HB.out hx101_0; replace p101 := eq_true p101; replace q101 := eq_true q101
  go_enter Try.func197, Try.ntmps197
  go_upto_if 53 with (fail)
  repeat (go_quiet (fail); go_upto_if 53 with (fail))
  have H := HU4.out; clear HU4
  by_cases c6 : (wrap64 (s0_1 + 1)) ≤ (s0_0.length : Int)
  ·rw [if_pos c6] at H
   have c6b0 := decide_eq_true c6; clear c6
   (first | rw [c6b0] | (simp only [i64_w, i32_w]; rw [c6b0]) | skip)
   simp only [Option.some.injEq, Prod.mk.injEq] at H
   obtain ⟨rfl, rfl, rfl⟩ := H
   go_wp2
   repeat (go_quiet (fail); try go_wp2)
   go_ret
   exact ⟨Q19, Q36 HI0, Q7 HB HI0, Q50 HK⟩
  ·rw [if_neg c6] at H
   have c6b0 := decide_eq_false c6; clear c6
   (first | rw [c6b0] | (simp only [i64_w, i32_w]; rw [c6b0]) | skip)
   simp only [Option.some.injEq, Prod.mk.injEq] at H
   obtain ⟨rfl, rfl, rfl⟩ := H; obtain ⟨ASz7_0, cSz7_0, HGz7, hgz7, HSz7_0⟩ := HI0.out; have _ := cellS96_0 HGz7; have _ := cellS96_1 HGz7; have _ := cellS96_2 HGz7; have _ := blk_frozen HGz7 1; have _ := blk_frozen HGz7 2; clear HGz7 hgz7
   go_wp2
   repeat (go_quiet (fail); try go_wp2)
   go_ret
   exact ⟨Q19, Q36 HI0, Q7 HB HI0, Q50 HK⟩
 ·rw [if_neg c2] at H
  have c2b0 := decide_eq_false c2; clear c2; have HU8 := Aside0.mk H; clear H; obtain ⟨ASz9_0, cSz9_0, HGz9, hgz9, HSz9_0⟩ := HI0.out; have _ := cellS96_0 HGz9; have _ := cellS96_1 HGz9; have _ := cellS96_2 HGz9; have _ := blk_frozen HGz9 1; have _ := blk_frozen HGz9 2; clear HGz9 hgz9
  go_enter Try.func197, Try.ntmps197
  go_upto_if 53 with (fail)
  repeat (go_quiet (fail); go_upto_if 53 with (fail))
  have H := HU8.out; clear HU8
  by_cases c10 : (wrap64 (s0_1 + 1)) ≤ (s0_0.length : Int)
  ·rw [if_pos c10] at H
   have c10b0 := decide_eq_true c10; clear c10
   (first | rw [c10b0] | (simp only [i64_w, i32_w]; rw [c10b0]) | skip)
   simp only [Option.some.injEq, Prod.mk.injEq] at H
   obtain ⟨rfl, rfl, rfl⟩ := H
   go_wp2
   repeat (go_quiet (fail); try go_wp2)
   go_ret
   exact ⟨Q19, Q36 HI0, Q7 HB HI0, Q50 HK⟩
  ·rw [if_neg c10] at H
   have c10b0 := decide_eq_false c10; clear c10
   (first | rw [c10b0] | (simp only [i64_w, i32_w]; rw [c10b0]) | skip)
   simp only [Option.some.injEq, Prod.mk.injEq] at H
   obtain ⟨rfl, rfl, rfl⟩ := H; obtain ⟨ASz11_0, cSz11_0, HGz11, hgz11, HSz11_0⟩ := HI0.out; have _ := cellS96_0 HGz11; have _ := cellS96_1 HGz11; have _ := cellS96_2 HGz11; have _ := blk_frozen HGz11 1; have _ := blk_frozen HGz11 2; clear HGz11 hgz11
   go_wp2
   repeat (go_quiet (fail); try go_wp2)
   go_ret
   exact ⟨Q19, Q36 HI0, Q7 HB HI0, Q50 HK⟩
/-! ### spec_l1Cur_pick: function 141 -/
def spec_l1Cur_pick.f (s0_0 : List Int) (s0_1 : Int) (s0_2 : Int) (a1 : Int) : Option (Int × Int × Int) := if a1 ≤ 1 then (some (0, s0_1, s0_2)) else ((spec_l1Cur_next.f s0_0 s0_1 s0_2).bind fun bt101 => (if a1 > 200 then ((spec_l1Cur_next.f s0_0 bt101.2.1 bt101.2.2).bind fun bt104 => (if a1 = 0 then (none) else (some (Int.tmod (wrap64 ((wrap64 (bt101.1 * 256)) + bt104.1)) a1, bt104.2.1, bt104.2.2)))) else (if a1 = 0 then (none) else (some (Int.tmod bt101.1 a1, bt101.2.1, bt101.2.2)))))
set_option maxHeartbeats 8000000 in
set_option maxRecDepth 100000 in
theorem spec_l1Cur_pick.calls (g : Nat) (s0_0 : List Int) (s0_1 : Int) (s0_2 : Int) (a1 : Int) (r1 : Int) (r2 : Int) (r3 : Int) (w0 w : World) (hI : IsS96 w0 w g s0_0 s0_1 s0_2) (hB : Below w0.heap.size w0 w) (h : spec_l1Cur_pick.f s0_0 s0_1 s0_2 a1 = some (r1, r2, r3)) :
  Calls Try.prog 141 #[.pointer (some ⟨g, 0, none⟩), .int .i64 a1] w fun e w' => e = .returned (.int .i64 r1) ∧ IsS96 w0 w' g s0_0 r2 r3 ∧ Below w0.heap.size w0 w' ∧ KeepBut w w' g none := by
 have HI0 := Aside0.mk hI
 have HK := am (KeepBut.refl w g none)
 have HL := Aside0.mk hB.size
 clear hI
 have HW0 := Aside0.mk hB.size
 have HB := Aside0.mk hB
 clear hB
 have H : (if a1 ≤ 1 then (some (0, s0_1, s0_2)) else ((spec_l1Cur_next.f s0_0 s0_1 s0_2).bind fun bt101 => (if a1 > 200 then ((spec_l1Cur_next.f s0_0 bt101.2.1 bt101.2.2).bind fun bt104 => (if a1 = 0 then (none) else (some (Int.tmod (wrap64 ((wrap64 (bt101.1 * 256)) + bt104.1)) a1, bt104.2.1, bt104.2.2)))) else (if a1 = 0 then (none) else (some (Int.tmod bt101.1 a1, bt101.2.1, bt101.2.2)))))) = some (r1, r2, r3) := h
 clear h
 by_cases c3 : a1 ≤ 1
 ·rw [if_pos c3] at H
  have c3b0 := decide_eq_true c3; clear c3
  simp only [Option.some.injEq, Prod.mk.injEq] at H
  obtain ⟨rfl, rfl, rfl⟩ := H
  go_enter Try.func141, Try.ntmps141
  go_wp2
  go_ret
  exact ⟨Q19, Q36 HI0, Q7 HB HI0, Q50 HK⟩
 ·rw [if_neg c3] at H
  have c3b0 := decide_eq_false c3; clear c3; replace H := (ob H); obtain ⟨⟨t101, t102, t103⟩, A40, H⟩ := H; (try dsimp only at H); have A4 := Aside0.mk A40; clear A40; have HU5 := Aside0.mk H; clear H
  go_enter Try.func141, Try.ntmps141
  go_upto_if 11 with (first | ((with_reducible refine gate_callee (f := 197) rfl ?_); refine goesL_ (some 9) rfl rfl Try.func197 (by kernel_rfl) rfl #[.pointer (some ⟨g, 0, none⟩)] rfl Q6 ?_; (with_reducible refine (spec_l1Cur_next.calls g s0_0 s0_1 s0_2 t101 t102 t103 w0 _ ?side1 ?side2 A4.out).mono ?_); (case side1 => exact (Q36 HI0)); (case side2 => exact (Q7 HB HI0)); rintro e w6 ⟨rfl, hi, hb, hk⟩; refine ⟨_, rfl, ?_⟩; replace HK := am (KeepBut.trans (Q50 HK) hk (.inl rfl)); replace HB := am (hb); replace HI0 := am (hi); (try clear hb); (try clear hk); (try clear hi)))
  (try simp only [Act.put, List.setIfInBounds_toArray, List.set_cons_zero, List.set_cons_succ]); have H := HU5.out; clear HU5
  by_cases c7 : a1 > 200
  ·rw [if_pos c7] at H
   have c7b0 : decide (200 < a1) = true := decide_eq_true c7; clear c7
   (first | rw [c7b0] | (simp only [i64_w, i32_w]; rw [c7b0]) | skip)
   replace H := (ob H); obtain ⟨⟨t104, t105, t106⟩, A80, H⟩ := H; (try dsimp only at H); have A8 := Aside0.mk A80; clear A80
   obtain ⟨c9, H⟩ := ifz H
   have c9b0 := beq_eq_false_iff_ne.mpr c9; have c9b1 := bne_iff_ne.mpr c9
   simp only [Option.some.injEq, Prod.mk.injEq] at H
   obtain ⟨rfl, rfl, rfl⟩ := H
   go_wp2_with (first | ((with_reducible refine gate_callee (f := 197) rfl ?_); refine goesL_ (some 15) rfl rfl Try.func197 (by kernel_rfl) rfl #[.pointer (some ⟨g, 0, none⟩)] rfl Q6 ?_; (with_reducible refine (spec_l1Cur_next.calls g s0_0 t102 t103 t104 t105 t106 w0 _ ?side1 ?side2 A8.out).mono ?_); (case side1 => exact (Q36 HI0)); (case side2 => exact (Q7 HB HI0)); rintro e w10 ⟨rfl, hi, hb, hk⟩; refine ⟨_, rfl, ?_⟩; replace HK := am (KeepBut.trans (Q50 HK) hk (.inl rfl)); replace HB := am (hb); replace HI0 := am (hi); (try clear hb); (try clear hk); (try clear hi)))
   go_ret
   exact ⟨Q19, Q36 HI0, Q7 HB HI0, Q50 HK⟩
  ·rw [if_neg c7] at H
   have c7b0 : decide (200 < a1) = false := decide_eq_false c7; clear c7
   (first | rw [c7b0] | (simp only [i64_w, i32_w]; rw [c7b0]) | skip)
   obtain ⟨c11, H⟩ := ifz H
   have c11b0 := beq_eq_false_iff_ne.mpr c11; have c11b1 := bne_iff_ne.mpr c11
   simp only [Option.some.injEq, Prod.mk.injEq] at H
   obtain ⟨rfl, rfl, rfl⟩ := H
   go_wp2
   go_ret
   exact ⟨Q19, Q36 HI0, Q7 HB HI0, Q50 HK⟩
/-! ### spec_l1Cur_among: function 106 -/
def spec_l1Cur_among.f (s0_0 : List Int) (s0_1 : Int) (s0_2 : Int) (l1 : List Int) : Option (Int × Int × Int) := (spec_l1Cur_pick.f s0_0 s0_1 s0_2 (l1.length : Int)).bind fun bt101 => (if 0 ≤ bt101.1 then (if bt101.1 < (l1.length : Int) then (some (rd l1 bt101.1, bt101.2.1, bt101.2.2)) else (none)) else (none))
set_option maxHeartbeats 8000000 in
set_option maxRecDepth 100000 in
theorem spec_l1Cur_among.calls (g : Nat) (s0_0 : List Int) (s0_1 : Int) (s0_2 : Int) (A1 : Option Addr) (c1 : Nat) (l1 : List Int) (r1 : Int) (r2 : Int) (r3 : Int) (w0 w : World) (hI : IsS96 w0 w g s0_0 s0_1 s0_2) (hB : Below w0.heap.size w0 w) (hr1 : Kd.C (Kd.int .i64) w A1 l1.length l1) (hc1 : l1.length ≤ c1) (hf1 : ∀ ad, A1 = some ad → 0 < l1.length → ad.block ≠ g) (h : spec_l1Cur_among.f s0_0 s0_1 s0_2 l1 = some (r1, r2, r3)) :
  Calls Try.prog 106 #[.pointer (some ⟨g, 0, none⟩), .slice A1 l1.length c1] w fun e w' => e = .returned (.int .i64 r1) ∧ IsS96 w0 w' g s0_0 r2 r3 ∧ Below w0.heap.size w0 w' ∧ KeepBut w w' g none := by
 have HR1 := Aside0.mk hr1
 have HC1 := Aside0.mk hc1
 clear hr1 hc1
 have HI0 := Aside0.mk hI
 have HK := am (KeepBut.refl w g none)
 have HL := Aside0.mk hB.size
 clear hI
 have HW0 := Aside0.mk hB.size
 have HB := Aside0.mk hB
 clear hB
 have H : ((spec_l1Cur_pick.f s0_0 s0_1 s0_2 (l1.length : Int)).bind fun bt101 => (if 0 ≤ bt101.1 then (if bt101.1 < (l1.length : Int) then (some (rd l1 bt101.1, bt101.2.1, bt101.2.2)) else (none)) else (none))) = some (r1, r2, r3) := h
 clear h
 replace H := (ob H)
 obtain ⟨⟨t101, t102, t103⟩, A30, H⟩ := H
 (try dsimp only at H)
 have A3 := Aside0.mk A30
 clear A30
 by_cases c4 : 0 ≤ t101
 ·rw [if_pos c4] at H
  have c4b0 := decide_eq_true c4; clear c4
  obtain ⟨c5, H⟩ := ifn H
  have c5b0 := decide_eq_true c5; clear c5
  simp only [Option.some.injEq, Prod.mk.injEq] at H
  obtain ⟨rfl, rfl, rfl⟩ := H
  go_enter Try.func106, Try.ntmps106
  go_wp2_with (first | ((with_reducible refine gate_callee (f := 141) rfl ?_); refine goesL_ (some 9) rfl rfl Try.func141 (by kernel_rfl) rfl #[.pointer (some ⟨g, 0, none⟩), .int .i64 (l1.length : Int)] rfl Q6 ?_; (with_reducible refine (spec_l1Cur_pick.calls g s0_0 s0_1 s0_2 (l1.length : Int) t101 t102 t103 w0 _ ?side1 ?side2 A3.out).mono ?_); (case side1 => exact (Q36 HI0)); (case side2 => exact (Q7 HB HI0)); rintro e w6 ⟨rfl, hi, hb, hk⟩; refine ⟨_, rfl, ?_⟩; replace HK := am (KeepBut.trans (Q50 HK) hk (.inl rfl)); replace HB := am (hb); replace HI0 := am (hi); (try clear hb); (try clear hk); (try clear hi); have p104 : 0 ≤ (t101 : Int) := D4; have q104 : t101 < (l1.length : Int) := D4; obtain ⟨ad104, e104, hx104_0⟩ := Kd.at_int HR1.out t101 p104 q104; cases e104; replace hx104_0 := keep_cell HK.out hx104_0 (by first | (rw [add_block]; exact hf1 _ rfl (by omega)) | exact hf1 _ rfl (by omega) | exact hf1 ad104 rfl (by omega)); replace p104 := eq_true p104; replace q104 := eq_true q104))
  go_ret
  exact ⟨Q19, Q36 HI0, Q7 HB HI0, Q50 HK⟩
 ·rw [if_neg c4] at H
  exact absurd H (by simp)
/-! ### spec_l1Cur_one: function 129 -/
def spec_l1Cur_one.f (s0_0 : List Int) (s0_1 : Int) (s0_2 : Int) (a1 : Int) : Option (Bool × Int × Int) := (spec_l1Cur_pick.f s0_0 s0_1 s0_2 a1).bind fun bt101 => (some ((bt101.1 == 0), bt101.2.1, bt101.2.2))
set_option maxHeartbeats 8000000 in
set_option maxRecDepth 100000 in
theorem spec_l1Cur_one.calls (g : Nat) (s0_0 : List Int) (s0_1 : Int) (s0_2 : Int) (a1 : Int) (r1 : Bool) (r2 : Int) (r3 : Int) (w0 w : World) (hI : IsS96 w0 w g s0_0 s0_1 s0_2) (hB : Below w0.heap.size w0 w) (h : spec_l1Cur_one.f s0_0 s0_1 s0_2 a1 = some (r1, r2, r3)) :
  Calls Try.prog 129 #[.pointer (some ⟨g, 0, none⟩), .int .i64 a1] w fun e w' => e = .returned (.bool r1) ∧ IsS96 w0 w' g s0_0 r2 r3 ∧ Below w0.heap.size w0 w' ∧ KeepBut w w' g none := by
 have HI0 := Aside0.mk hI
 have HK := am (KeepBut.refl w g none)
 have HL := Aside0.mk hB.size
 clear hI
 have HW0 := Aside0.mk hB.size
 have HB := Aside0.mk hB
 clear hB
 have H : ((spec_l1Cur_pick.f s0_0 s0_1 s0_2 a1).bind fun bt101 => (some ((bt101.1 == 0), bt101.2.1, bt101.2.2))) = some (r1, r2, r3) := h
 clear h
 replace H := (ob H)
 obtain ⟨⟨t101, t102, t103⟩, A30, H⟩ := H
 (try dsimp only at H)
 have A3 := Aside0.mk A30
 clear A30
 simp only [Option.some.injEq, Prod.mk.injEq] at H
 obtain ⟨rfl, rfl, rfl⟩ := H
 go_enter Try.func129, Try.ntmps129
 go_wp2_with (first | ((with_reducible refine gate_callee (f := 141) rfl ?_); refine goesL_ (some 7) rfl rfl Try.func141 (by kernel_rfl) rfl #[.pointer (some ⟨g, 0, none⟩), .int .i64 a1] rfl Q6 ?_; (with_reducible refine (spec_l1Cur_pick.calls g s0_0 s0_1 s0_2 a1 t101 t102 t103 w0 _ ?side1 ?side2 A3.out).mono ?_); (case side1 => exact (Q36 HI0)); (case side2 => exact (Q7 HB HI0)); rintro e w4 ⟨rfl, hi, hb, hk⟩; refine ⟨_, rfl, ?_⟩; replace HK := am (KeepBut.trans (Q50 HK) hk (.inl rfl)); replace HB := am (hb); replace HI0 := am (hi); (try clear hb); (try clear hk); (try clear hi)))
 go_ret
 exact ⟨Q19, Q36 HI0, Q7 HB HI0, Q50 HK⟩
/-! ### spec_l1Cur_marred: function 188 -/
def spec_l1Cur_marred.f (s0_0 : List Int) (s0_1 : Int) (s0_2 : Int) (a1_0 : Int) (l1_1 : List (S71)) : Option (Int × (List (S71)) × Int × Int) := (spec_l1Cur_pick.f s0_0 s0_1 s0_2 50).bind fun bt103 => (if bt103.1 = 0 then ((spec_l1Cur_among.f s0_0 bt103.2.1 bt103.2.2 (([(-1), 8, 9, 0, 4611686018427387904] : List Int))).bind fun bt109 => (some (bt109.1, l1_1, bt109.2.1, bt109.2.2))) else (if bt103.1 = 1 then ((spec_l1Cur_pick.f s0_0 bt103.2.1 bt103.2.2 4).bind fun bt112 => ((spec_l1Cur_pick.f s0_0 bt112.2.1 bt112.2.2 9).bind fun bt115 => (if l1_1.length < 8796093022208 then (some (a1_0, (l1_1 ++ [(⟨bt112.1, wrap64 (bt115.1 - 1)⟩ : S71)]), bt115.2.1, bt115.2.2)) else (none)))) else (if bt103.1 = 2 then (if (l1_1.length : Int) > 0 then ((spec_l1Cur_pick.f s0_0 bt103.2.1 bt103.2.2 (l1_1.length : Int)).bind fun bt121 => (if 0 ≤ bt121.1 then (if bt121.1 < (l1_1.length : Int) then (if l1_1.length < 8796093022208 then (some (a1_0, (l1_1 ++ [(⟨(rd_T71 l1_1 bt121.1).f0, (rd_T71 l1_1 bt121.1).f1⟩ : S71)]), bt121.2.1, bt121.2.2)) else (none)) else (none)) else (none))) else (some (a1_0, l1_1, bt103.2.1, bt103.2.2))) else (some (a1_0, l1_1, bt103.2.1, bt103.2.2)))))
def spec_l1Cur_marred.T5 : Bool × List (List Nat × List Nat) := (true, [([], []), ([0], [0]), ([], []), ([2], [2]), ([], []), ([4, 3], [4]), ([5], [5]), ([3, 6], [3, 6]), ([7], [7]), ([1, 8, 5], [1, 8]), ([0, 1, 2, 3, 4, 5, 6, 7, 8, 9], []), ([10, 9, 9, 0, 1, 2, 3, 4, 5, 6, 7, 8, 9], [9, 10])])
def spec_l1Cur_marred.B5 : List Nat := [0, 1, 0, 4, 0, 28, 60, 124, 252, 511, 1023, 2047]
theorem spec_l1Cur_marred.tab5 : rtab .any (opsOf Try.f188 5) = spec_l1Cur_marred.T5 := by kernel_rfl
theorem spec_l1Cur_marred.bits5 : waitsOk spec_l1Cur_marred.T5.2 spec_l1Cur_marred.B5 = true := by kernel_rfl
def spec_l1Cur_marred.T8 : Bool × List (List Nat × List Nat) := (true, [([], []), ([0], [0]), ([], []), ([2], [2]), ([], []), ([], []), ([5], [5]), ([6], [6]), ([4, 7], [4, 7]), ([3, 8], [3, 8]), ([9], [9]), ([10], [10]), ([1, 11, 8], [1, 11]), ([0, 1, 2, 3, 4, 5, 6, 7, 8, 9, 10, 11, 12], []), ([13, 12, 12, 0, 1, 2, 3, 4, 5, 6, 7, 8, 9, 10, 11, 12], [12, 13])])
def spec_l1Cur_marred.B8 : List Nat := [0, 1, 0, 4, 0, 0, 32, 96, 240, 508, 1020, 2044, 4095, 8191, 16383]
theorem spec_l1Cur_marred.tab8 : rtab .any (opsOf Try.f188 8) = spec_l1Cur_marred.T8 := by kernel_rfl
theorem spec_l1Cur_marred.bits8 : waitsOk spec_l1Cur_marred.T8.2 spec_l1Cur_marred.B8 = true := by kernel_rfl
set_option maxHeartbeats 8000000 in
set_option maxRecDepth 100000 in
theorem spec_l1Cur_marred.calls (g : Nat) (s0_0 : List Int) (s0_1 : Int) (s0_2 : Int) (a1_0 : Int) (P1_1_ : Nat → Prop) (u9000_ : Value) (l1_1 : List (S71)) (r1 : Int) (r2 : List (S71)) (r3 : Int) (r4 : Int) (w0 w : World) (hI : IsS96 w0 w g s0_0 s0_1 s0_2) (hB : Below w0.heap.size w0 w) (ho1_1 : Kd.R k71 71 w w0.heap.size P1_1_ u9000_ l1_1) (h : spec_l1Cur_marred.f s0_0 s0_1 s0_2 a1_0 l1_1 = some (r1, r2, r3, r4)) :
  Calls Try.prog 188 #[.pointer (some ⟨g, 0, none⟩), .agg #[.int .i64 a1_0, u9000_]] w fun e w' => ∃ v1_ : Value, e = .returned (.agg #[.int .i64 r1, v1_]) ∧ Kd.R k71 71 w' w0.heap.size (fun k_ => (P1_1_ k_ ∨ w.heap.size ≤ k_)) v1_ r2 ∧ IsS96 w0 w' g s0_0 r3 r4 ∧ Below w0.heap.size w0 w' ∧ Kept w w' (fun k_ => (P1_1_ k_) ∨ k_ = g) := by
 have hu30 := Try.underlying30
 have hu71 := Try.underlying71
 have HO1_1 := am (show Kd.R k71 71 w w0.heap.size (fun k_ => (P1_1_ k_ ∨ w.heap.size ≤ k_)) u9000_ l1_1 from Kd.R_mono ho1_1 (fun k_ hk => (.inl hk)))
 have HI0 := Aside0.mk hI
 have HL := Aside0.mk hB.size
 clear hI
 have HK := am (Kept.refl w (fun k_ => (P1_1_ k_) ∨ k_ = g))
 have HW0 := Aside0.mk hB.size
 have HB := Aside0.mk hB
 clear hB
 have H : ((spec_l1Cur_pick.f s0_0 s0_1 s0_2 50).bind fun bt103 => (if bt103.1 = 0 then ((spec_l1Cur_among.f s0_0 bt103.2.1 bt103.2.2 (([(-1), 8, 9, 0, 4611686018427387904] : List Int))).bind fun bt109 => (some (bt109.1, l1_1, bt109.2.1, bt109.2.2))) else (if bt103.1 = 1 then ((spec_l1Cur_pick.f s0_0 bt103.2.1 bt103.2.2 4).bind fun bt112 => ((spec_l1Cur_pick.f s0_0 bt112.2.1 bt112.2.2 9).bind fun bt115 => (if l1_1.length < 8796093022208 then (some (a1_0, (l1_1 ++ [(⟨bt112.1, wrap64 (bt115.1 - 1)⟩ : S71)]), bt115.2.1, bt115.2.2)) else (none)))) else (if bt103.1 = 2 then (if (l1_1.length : Int) > 0 then ((spec_l1Cur_pick.f s0_0 bt103.2.1 bt103.2.2 (l1_1.length : Int)).bind fun bt121 => (if 0 ≤ bt121.1 then (if bt121.1 < (l1_1.length : Int) then (if l1_1.length < 8796093022208 then (some (a1_0, (l1_1 ++ [(⟨(rd_T71 l1_1 bt121.1).f0, (rd_T71 l1_1 bt121.1).f1⟩ : S71)]), bt121.2.1, bt121.2.2)) else (none)) else (none)) else (none))) else (some (a1_0, l1_1, bt103.2.1, bt103.2.2))) else (some (a1_0, l1_1, bt103.2.1, bt103.2.2)))))) = some (r1, r2, r3, r4) := h
 clear h
 replace H := (ob H)
 obtain ⟨⟨t103, t104, t105⟩, A30, H⟩ := H
 (try dsimp only at H)
 have A3 := Aside0.mk A30
 clear A30
 have HU4 := Aside0.mk H
 clear H
 obtain ⟨Ao5, co5, eo5⟩ := Kd.R_slice HO1_1.out
 subst eo5
 go_enter Try.func188, Try.ntmps188
 go_upto_if 7 with (first | ((with_reducible refine gate_dst (N := 3) rfl ?_); refine box_event (by rfl) (N := 3) (by rfl) (cs := #[.int .i64 a1_0, .slice Ao5 l1_1.length co5]) (t := 30) Qr ?_; intro gb101 hg w6 hbox hb; replace HO1_1 := am (Kd.R_below (Q5 HO1_1) hb); have BK101 := am (hbox); have GW101 := am ((by rw [hg]; exact (by first | exact HK.out.1 | exact (show Kept w _ (fun k_ => (P1_1_ k_) ∨ k_ = g) from by repeat (first | (with_reducible first | exact HK.out | apply Kept.alloc | apply Kept.drewN | apply Kept.drew | refine Kept.setCell ?_ (.inl (.inr rfl)) _) | exact HK.out)).1) : w.heap.size ≤ gb101)); replace HK := am (Kept.below (S := (fun k_ => (P1_1_ k_) ∨ k_ = g)) (by repeat (first | (with_reducible first | exact HK.out | apply Kept.alloc | apply Kept.drewN | apply Kept.drew | refine Kept.setCell ?_ (.inl (.inr rfl)) _) | exact HK.out)) hb); have GE101 := am ((by rw [hg]; exact (below_size (Q7 HB HI0)) : w0.heap.size ≤ gb101)); replace HB := am (below_step (Q7 HB HI0) hb); have NB0_101 := am ((Q201 : g ≠ gb101)); have NB101_0 := am ((Q202 : gb101 ≠ g)); replace HI0 := am (IsS96.below (Q36 HI0) hb); clear hb hbox hg) | ((with_reducible refine gate_dst (N := 4) rfl ?_); refine box_event (by rfl) (N := 4) (by rfl) (cs := #[.int .i64 0, .slice none 0 0]) (t := 30) Qr ?_; intro gb102 hg w7 hbox hb; replace HO1_1 := am (Kd.R_below (Q5 HO1_1) hb); have BK102 := am (hbox); have GW102 := am ((by rw [hg]; exact (by first | exact HK.out.1 | exact (show Kept w _ (fun k_ => (P1_1_ k_) ∨ k_ = g) from Q206 HK GW101).1) : w.heap.size ≤ gb102)); replace HK := am (Kept.below (S := (fun k_ => (P1_1_ k_) ∨ k_ = g)) (Q206 HK GW101) hb); have GE102 := am ((by rw [hg]; exact (below_size (Q7 HB HI0)) : w0.heap.size ≤ gb102)); replace HB := am (below_step (Q7 HB HI0) hb); have NB101_102 := am ((by rw [hg]; exact Nat.ne_of_lt (blk_lt (g := gb101) (o := .cells #[.int .i64 a1_0, .slice Ao5 l1_1.length co5] 30 (0, 0)) (Q0 BK101)) : gb101 ≠ gb102)); have NB102_101 := am ((by rw [hg]; exact Nat.ne_of_gt (blk_lt (g := gb101) (o := .cells #[.int .i64 a1_0, .slice Ao5 l1_1.length co5] 30 (0, 0)) (Q0 BK101)) : gb102 ≠ gb101)); replace BK101 := bb BK101 hb; have NB0_102 := am ((by rw [hg]; exact Nat.ne_of_lt (IsS96.lt (show IsS96 w0 _ g s0_0 s0_1 s0_2 from Q31 HI0 NB0_101)) : g ≠ gb102)); have NB102_0 := am ((by rw [hg]; exact Nat.ne_of_gt (IsS96.lt (show IsS96 w0 _ g s0_0 s0_1 s0_2 from Q31 HI0 NB0_101)) : gb102 ≠ g)); replace HI0 := am (IsS96.below (Q31 HI0 NB0_101) hb); clear hb hbox hg) | ((with_reducible refine gate_callee (f := 141) rfl ?_); refine goesL_ (some 6) rfl rfl Try.func141 (by kernel_rfl) rfl #[.pointer (some ⟨g, 0, none⟩), .int .i64 50] rfl Q6 ?_; (with_reducible refine (spec_l1Cur_pick.calls g s0_0 s0_1 s0_2 50 t103 t104 t105 w0 _ ?side1 ?side2 A3.out).mono ?_); (case side1 => exact (Q3 HI0 NB0_101 NB0_102)); (case side2 => exact (Q7 HB HI0)); rintro e w8 ⟨rfl, hi, hb, hk⟩; refine ⟨_, rfl, ?_⟩; replace HO1_1 := am (Kd.R_mono (Kd.R_keep (IsS96.apart (show IsS96 w0 _ g s0_0 s0_1 s0_2 from Q3 HI0 NB0_101 NB0_102) (Q5 HO1_1) (by decide)) hk (fun _ h => h.2)) (fun _ h => h.1)); replace BK101 := am (KeepBut.blk hk (g' := gb101) (o := .cells #[.int .i64 a1_0, .slice Ao5 l1_1.length co5] 30 (0, 0)) (Q0 BK101) NB101_0.out (by simp)); replace BK102 := am (KeepBut.blk hk (g' := gb102) (o := .cells #[.int .i64 0, .slice none 0 0] 30 (0, 0)) (Q0 BK102) NB102_0.out (by simp)); replace HK := am (Kept.of_keep (S := (fun k_ => (P1_1_ k_) ∨ k_ = g)) (Q33 HK GW101 GW102) hk (.inl (.inr rfl))); replace HB := am (hb); replace HI0 := am (hi); (try clear hb); (try clear hk); (try clear hi)))
 (try simp only [Act.put, List.setIfInBounds_toArray, List.set_cons_zero, List.set_cons_succ])
 have H := HU4.out
 clear HU4
 by_cases c9 : t103 = 0
 ·rw [if_pos c9] at H
  have c9b0 := beq_iff_eq.mpr c9; have c9b1 := bne_eq_false_iff_eq.mpr c9; clear c9
  (first | rw [c9b0] | (simp only [i64_w, i32_w]; rw [c9b0]) | rw [c9b1] | skip)
  obtain ⟨y106, hy106⟩ : ∃ y_ : List Int, y_ = (([(-1), 8, 9, 0, 4611686018427387904] : List Int)) := ⟨_, rfl⟩; replace H : ((spec_l1Cur_among.f s0_0 t104 t105 y106).bind fun bt109 => (some (bt109.1, l1_1, bt109.2.1, bt109.2.2))) = some (r1, r2, r3, r4) := RH hy106 H; have Ny106 := Aside0.mk hy106; clear hy106; replace H := (ob H); obtain ⟨⟨t109, t110, t111⟩, A100, H⟩ := H; (try dsimp only at H); have A10 := Aside0.mk A100; clear A100
  simp only [Option.some.injEq, Prod.mk.injEq] at H
  obtain ⟨rfl, rfl, rfl, rfl⟩ := H
  go_wp2_with (first | ((with_reducible refine gate_dst (N := 10) rfl ?_); refine Kd.R_lit (Kd.int .i64) _ 3 (by rfl) (N := 10) (by rfl) (xs := ([(-1), 8, 9, 0, 4611686018427387904] : List Int)) (inner := [.int .i64 (-1), .int .i64 8, .int .i64 9, .int .i64 0, .int .i64 4611686018427387904]) (ok := fun _ => True) (okp := fun _ => True) Qr ?hp (fun _ hk => hk) trivial (Below.refl _ _) (Nat.le_refl _) (by simp) ?_; (case hp => exact (Reps.one (show Kd.M (Kd.int .i64) _ _ _ (-1) [.int .i64 (-1)] from rfl) (Reps.one (show Kd.M (Kd.int .i64) _ _ _ 8 [.int .i64 8] from rfl) (Reps.one (show Kd.M (Kd.int .i64) _ _ _ 9 [.int .i64 9] from rfl) (Reps.one (show Kd.M (Kd.int .i64) _ _ _ 0 [.int .i64 0] from rfl) (Reps.one (show Kd.M (Kd.int .i64) _ _ _ 4611686018427387904 [.int .i64 4611686018427387904] from rfl) (Reps.none _ _))))))); intro v107 w11 ho12 hb hg_ hnew_; clear hg_ hnew_; (first | rw [← Ny106.out] at ho12 | (simp only [Int.reduceToNat] at ho12; rw [← Ny106.out] at ho12)); replace HO1_1 := am (Kd.R_below (Q5 HO1_1) hb); have HO108 := am (Kd.R_lower (Kd.R_newM (M := fun k_ => (P1_1_ k_ ∨ w.heap.size ≤ k_)) ho12 (Q199 HK) (fun k_ h_ => .inr h_)) (below_size (Q7 HB HI0))); replace BK101 := bb BK101 hb; replace BK102 := bb BK102 hb; replace HK := am (Kept.below (S := (fun k_ => (P1_1_ k_) ∨ k_ = g)) (Q33 HK GW101 GW102) hb); replace HB := am (below_step (Q7 HB HI0) hb); replace HI0 := am (IsS96.below (Q3 HI0 NB0_101 NB0_102) hb); clear hb ho12; obtain ⟨Ao13, co13, eo13⟩ := Kd.R_slice HO108.out; subst eo13) | ((with_reducible refine gate_callee (f := 106) rfl ?_); refine goesL_ (some 11) rfl rfl Try.func106 (by kernel_rfl) rfl #[.pointer (some ⟨g, 0, none⟩), .slice Ao13 y106.length co13] rfl Q6 ?_; (with_reducible refine (spec_l1Cur_among.calls g s0_0 t104 t105 _ _ y106 t109 t110 t111 w0 _ ?side1 ?side2 ?side3 ?side4 ?side5 A10.out).mono ?_); (case side1 => exact (Q3 HI0 NB0_101 NB0_102)); (case side2 => exact (Q7 HB HI0)); (case side3 => exact (Q105 HO108)); (case side4 => exact (Kd.R_reads' HO108.out).2.1); (case side5 => exact far_slice (IsS96.own_ne HI0.out HO108.out (by decide))); rintro e w14 ⟨rfl, hi, hb, hk⟩; refine ⟨_, rfl, ?_⟩; replace HO1_1 := am (Kd.R_mono (Kd.R_keep (IsS96.apart (show IsS96 w0 _ g s0_0 t104 t105 from Q3 HI0 NB0_101 NB0_102) (Q5 HO1_1) (by decide)) hk (fun _ h => h.2)) (fun _ h => h.1)); replace BK101 := am (KeepBut.blk hk (g' := gb101) (o := .cells #[.int .i64 a1_0, .slice Ao5 l1_1.length co5] 30 (0, 0)) (Q0 BK101) NB101_0.out (by simp)); replace BK102 := am (KeepBut.blk hk (g' := gb102) (o := .cells #[.int .i64 0, .slice none 0 0] 30 (0, 0)) (Q0 BK102) NB102_0.out (by simp)); replace HO108 := am (Kd.R_mono (Kd.R_keep (IsS96.apart (show IsS96 w0 _ g s0_0 t104 t105 from Q3 HI0 NB0_101 NB0_102) (Q5 HO108) (by decide)) hk (fun _ h => h.2)) (fun _ h => h.1)); replace HK := am (Kept.of_keep (S := (fun k_ => (P1_1_ k_) ∨ k_ = g)) (Q33 HK GW101 GW102) hk (.inl (.inr rfl))); replace HB := am (hb); replace HI0 := am (hi); (try clear hb); (try clear hk); (try clear hi); obtain ⟨_, _, _, _⟩ := o4 NB101_102 NB102_101 NB101_0 NB0_101; obtain ⟨_, _, _, _⟩ := b2 BK101; obtain ⟨_, _⟩ := o2 NB102_0 NB0_102; obtain ⟨_, _, _, _⟩ := b2 BK102))
  refine bodyPost_ret (results_cell_row rfl _ _ gb102 30 #[.int .i64 t109, .slice Ao5 l1_1.length co5] (0, 0) _ rfl (by (with_reducible repeat (first | refine blk_drewN ?_ _ | refine blk_drew ?_ | refine blk_alloc ?_ _)); refine blk_put (cs := #[.int .i64 t109, .slice none 0 0]) ?_ 1 _ rfl; (with_reducible repeat (first | refine blk_drewN ?_ _ | refine blk_drew ?_ | refine blk_alloc ?_ _)); refine blk_put (cs := #[.int .i64 0, .slice none 0 0]) ?_ 0 _ rfl; (with_reducible repeat (first | refine blk_drewN ?_ _ | refine blk_drew ?_ | refine blk_alloc ?_ _)); refine blk_far ?_ NB102_101.out _; (with_reducible repeat (first | refine blk_drewN ?_ _ | refine blk_drew ?_ | refine blk_alloc ?_ _)); exact BK102.out) Try.underlying30 rfl (by kernel_rfl)) rfl ?_; exact ⟨_, Q19, by (with_reducible repeat (first | apply Kd.R_alloc | apply Kd.R_drewN | apply Kd.R_drew)); exact Kd.R_mono (Kd.R_far (p := ⟨gb102, 1, none⟩) (Kd.R_far (p := ⟨gb102, 0, none⟩) (Kd.R_far (p := ⟨gb101, 0, none⟩) (Kd.R_types (Kd.R_types HO1_1.out BK101.out (by decide)) BK102.out (by decide)) (fun _ hk => hk.1.2) (.int .i64 t109)) (fun _ hk => hk.2) (.int .i64 t109)) (fun _ hk => hk.2) (.slice Ao5 l1_1.length co5)) (fun _ hk => hk.1.1), Q3 HI0 NB0_101 NB0_102, Q124 HB HI0 GE101 GE102, Q33 HK GW101 GW102⟩
 ·rw [if_neg c9] at H
  have c9b0 := beq_eq_false_iff_ne.mpr c9; have c9b1 := bne_iff_ne.mpr c9
  (first | rw [c9b0] | (simp only [i64_w, i32_w]; rw [c9b0]) | rw [c9b1] | skip)
  by_cases c20 : t103 = 1
  ·rw [if_pos c20] at H
   have c20b0 := beq_iff_eq.mpr c20; have c20b1 := bne_eq_false_iff_eq.mpr c20; clear c20; replace H := (ob H); obtain ⟨⟨t112, t113, t114⟩, A210, H⟩ := H; (try dsimp only at H); have A21 := Aside0.mk A210; clear A210; replace H := (ob H); obtain ⟨⟨t115, t116, t117⟩, A220, H⟩ := H; (try dsimp only at H); have A22 := Aside0.mk A220; clear A220
   obtain ⟨c23, H⟩ := ifn H
   have LMc23 := Aside0.mk c23; clear c23; obtain ⟨y118, hy118⟩ : ∃ y_ : List (S71), y_ = (l1_1 ++ [(⟨t112, wrap64 (t115 - 1)⟩ : S71)]) := ⟨_, rfl⟩; replace H : (some (a1_0, y118, t116, t117)) = some (r1, r2, r3, r4) := RH hy118 H; have Ny118 := Aside0.mk hy118; clear hy118
   simp only [Option.some.injEq, Prod.mk.injEq] at H
   obtain ⟨rfl, rfl, rfl, rfl⟩ := H
   try go_wp2
   replace HO1_1 := am (Kd.R_drew HO1_1.out); replace BK101 := am (blk_drew BK101.out); replace BK102 := am (blk_drew BK102.out); replace HI0 := am (IsS96.drew HI0.out); replace HK := am (Kept.drew HK.out); replace HB := am (below_drew1 HB.out); refine start_ (n := 12) (S := fun w' => w'.cell? ⟨gb101, 0, none⟩ = some (.int .i64 a1_0) ∧ w'.cell? ⟨gb101, 1, none⟩ = some (.slice Ao5 l1_1.length co5)) (ds := [11]) #[false, false, false, false, false, false, false, false, false, false, false, false] (by kernel_rfl) rfl rfl ⟨(blk_cell BK101.out 0).trans rfl, (blk_cell BK101.out 1).trans rfl⟩ (fun hHeld => ?_); refine with_tabW spec_l1Cur_marred.tab5 spec_l1Cur_marred.bits5 (fun HT_ HW_ => ?_); generalize w8.drew = w24 at HO1_1 BK101 BK102 HI0 HK HB hHeld ⊢; refine pq 0 15 rfl rfl HT_ ?_; refine pq 2 17 rfl rfl HT_ ?_; refine pq 4 19 rfl rfl HT_ ?_; refine tq2 1 16 rfl rfl HT_ HW_ hHeld ?_; refine oq 3 18 rfl rfl HT_ (fun K hK => ?_); refine goes_ Try.func141 (by kernel_rfl) rfl #[.pointer (some ⟨g, 0, none⟩), .int .i64 4] (by rfl) rfl rfl Q6 ?_
   with_reducible refine (spec_l1Cur_pick.calls g s0_0 t104 t105 4 t112 t113 t114 w0 _ ?side1 ?side2 A21.out).mono ?_
   (case side1 => exact (Q3 HI0 NB0_101 NB0_102))
   (case side2 => exact (Q7 HB HI0))
   rintro e w25 ⟨rfl, hi, hb, hk⟩; refine ⟨_, rfl, ?_⟩; replace HO1_1 := am (Kd.R_mono (Kd.R_keep (IsS96.apart (show IsS96 w0 _ g s0_0 t104 t105 from Q3 HI0 NB0_101 NB0_102) (Q5 HO1_1) (by decide)) hk (fun _ h => h.2)) (fun _ h => h.1)); replace BK101 := am (KeepBut.blk hk (g' := gb101) (o := .cells #[.int .i64 a1_0, .slice Ao5 l1_1.length co5] 30 (0, 0)) (Q0 BK101) NB101_0.out (by simp)); replace BK102 := am (KeepBut.blk hk (g' := gb102) (o := .cells #[.int .i64 0, .slice none 0 0] 30 (0, 0)) (Q0 BK102) NB102_0.out (by simp)); replace HK := am (Kept.of_keep (S := (fun k_ => (P1_1_ k_) ∨ k_ = g)) (Q33 HK GW101 GW102) hk (.inl (.inr rfl))); replace HB := am (hb); replace HI0 := am (hi); (try clear hb); (try clear hk); (try clear hi); refine hK.out _ _ ⟨(blk_cell BK101.out 0).trans rfl, (blk_cell BK101.out 1).trans rfl⟩ (fun hHeld => ?_); clear hK K; refine nz ?_
   refine oq 5 20 rfl rfl HT_ (fun K hK => ?_); refine goes_ Try.func141 (by kernel_rfl) rfl #[.pointer (some ⟨g, 0, none⟩), .int .i64 9] (by rfl) rfl rfl Q6 ?_
   with_reducible refine (spec_l1Cur_pick.calls g s0_0 t113 t114 9 t115 t116 t117 w0 _ ?side1 ?side2 A22.out).mono ?_
   (case side1 => exact (Q3 HI0 NB0_101 NB0_102))
   (case side2 => exact (Q7 HB HI0))
   rintro e w26 ⟨rfl, hi, hb, hk⟩; refine ⟨_, rfl, ?_⟩; replace HO1_1 := am (Kd.R_mono (Kd.R_keep (IsS96.apart (show IsS96 w0 _ g s0_0 t113 t114 from Q3 HI0 NB0_101 NB0_102) (Q5 HO1_1) (by decide)) hk (fun _ h => h.2)) (fun _ h => h.1)); replace BK101 := am (KeepBut.blk hk (g' := gb101) (o := .cells #[.int .i64 a1_0, .slice Ao5 l1_1.length co5] 30 (0, 0)) (Q0 BK101) NB101_0.out (by simp)); replace BK102 := am (KeepBut.blk hk (g' := gb102) (o := .cells #[.int .i64 0, .slice none 0 0] 30 (0, 0)) (Q0 BK102) NB102_0.out (by simp)); replace HK := am (Kept.of_keep (S := (fun k_ => (P1_1_ k_) ∨ k_ = g)) (Q33 HK GW101 GW102) hk (.inl (.inr rfl))); replace HB := am (hb); replace HI0 := am (hi); (try clear hb); (try clear hk); (try clear hi); refine hK.out _ _ ⟨(blk_cell BK101.out 0).trans rfl, (blk_cell BK101.out 1).trans rfl⟩ (fun hHeld => ?_); clear hK K; refine nz ?_
   refine pq 6 21 rfl rfl HT_ ?_; refine pq 7 22 rfl rfl HT_ ?_; refine oq 8 23 rfl rfl HT_ (fun K hK => ?_); refine value_ (w1 := ?_) (v := ?_) (by rfl) rfl ?_ ?_
   rotate_left 2
   ·go_simp
    constructor
    ·rfl
    ·rfl
   refine hK.out _ _ ⟨(blk_cell (blk_alloc BK101.out _) 0).trans rfl, (blk_cell (blk_alloc BK101.out _) 1).trans rfl⟩ (fun hHeld => ?_); clear hK K; refine nz ?_
   refine oq 9 24 rfl rfl HT_ (fun K hK => ?_); refine Kd.R_append_step k71 (w0 := w0) w0.heap.size (by rfl) (.tmp 16) (.tmp 23) 22 71 (.agg #[(.int .i64 0), (.int .i64 0)]) 16 rfl Try.underlying22 info71 rfl (by decide) (by omega) (.slice Ao5 l1_1.length co5) l1_1 (⟨t112, wrap64 (t115 - 1)⟩ : S71) [.int .i64 t112, .int .i64 (wrap64 (t115 - 1))] (fun k_ => (P1_1_ k_ ∨ w.heap.size ≤ k_)) (fun _ => False) rfl rfl ?aP (fun _ hk => hk.elim) ?aF ?aO ?aB ?aS ?aL ?_
   (case aP => exact k71_mkM _ _ _ (⟨t112, wrap64 (t115 - 1)⟩ : S71))
   (case aB => exact (Q7 HB HI0))
   (case aF => exact (fun k_ hk => (.inr (Nat.le_trans (Q199 HK) hk))))
   (case aO => exact (Q5 HO1_1))
   (case aS => exact (below_size (Q7 HB HI0)))
   (case aL => have := LMc23.out; omega)
   intro v119 w27 ho hb hg hat; rw [← Ny118.out] at ho; replace HI0 := am (IsS96.grown (Q3 HI0 NB0_101 NB0_102) hg (IsS96.own_ne HI0.out HO1_1.out (by decide))); replace BK101 := am (blk_grown (g := gb101) (o := .cells #[.int .i64 a1_0, .slice Ao5 l1_1.length co5] 30 (0, 0)) (Q0 BK101) hg (Kd.R_ne HO1_1.out BK101.out (by decide))); replace BK102 := am (blk_grown (g := gb102) (o := .cells #[.int .i64 0, .slice none 0 0] 30 (0, 0)) (Q0 BK102) hg (Kd.R_ne HO1_1.out BK102.out (by decide))); replace HB := am (hb); replace HK := am (Kept.of_grown (S := (fun k_ => (P1_1_ k_) ∨ k_ = g)) hg (Q33 HK GW101 GW102) (fun k_ e_ => Or.imp_left Or.inl ((HO1_1.out.1 k_ e_)))); have HO120 := am (ho); clear HO1_1; clear ho hb hg hat; obtain ⟨Ao28, co28, eo28⟩ := Kd.R_slice HO120.out
   (first | subst eo28 | (injection eo28 with f1_ f2_ f3_; have f4_ := f1_.symm; have f5_ := f3_.symm; clear f1_ f2_ f3_; subst f4_; subst f5_))
   refine hK.out _ _ ⟨(blk_cell BK101.out 0).trans rfl, (blk_cell BK101.out 1).trans rfl⟩ (fun hHeld => ?_); clear hK K; refine nz ?_
   refine pq 10 25 rfl rfl HT_ ?_; refine last_ (i := 11) (N := none) #[true, true, true, true, true, true, true, true, true, true, true, true] rfl rfl (one_of HT_.out (by kernel_rfl)) (by decide) (fun K hK => ?_); have hs29 : w27.cell? ⟨gb101, 1, none⟩ = some (.slice Ao5 l1_1.length co5) := (blk_cell BK101.out 1).trans rfl; have hfs29 := blk_frozen BK101.out 1; have hns29_1 := NB102_101.out; have hms29_1 := NB101_102.out; refine skip_ (w1 := ?_) (by rfl) rfl ?_ ?_
   rotate_left
   ·go_simp
    rfl
   refine hK.out _ _ ?_; clear hK K; refine done_ (done_of HT_.out (by kernel_rfl)) ?_; obtain ⟨_, _, _, _⟩ := o4 NB101_102 NB102_101 NB101_0 NB0_101; obtain ⟨_, _, _, _⟩ := b2 BK101; obtain ⟨_, _⟩ := o2 NB102_0 NB0_102; obtain ⟨_, _, _, _⟩ := b2 BK102
   try go_wp2
   refine bodyPost_ret (results_cell_row rfl _ _ gb102 30 #[.int .i64 a1_0, .slice Ao28 y118.length co28] (0, 0) _ rfl (Q151 NB102_101 BK102) Try.underlying30 rfl (by kernel_rfl)) rfl ?_; exact ⟨_, Q19, by (with_reducible repeat (first | apply Kd.R_alloc | apply Kd.R_drewN | apply Kd.R_drew)); exact Kd.R_mono (Kd.R_far (p := ⟨gb102, 1, none⟩) (Kd.R_far (p := ⟨gb102, 0, none⟩) (Kd.R_far (p := ⟨gb101, 1, none⟩) (Kd.R_types (Kd.R_types HO120.out BK101.out (by decide)) BK102.out (by decide)) (fun _ hk => hk.1.2) (.slice Ao28 y118.length co28)) (fun _ hk => hk.2) (.int .i64 a1_0)) (fun _ hk => hk.2) (.slice Ao28 y118.length co28)) (fun _ hk => hk.1.1), Q3 HI0 NB0_101 NB0_102, Q124 HB HI0 GE101 GE102, Q33 HK GW101 GW102⟩
  ·rw [if_neg c20] at H
   have c20b0 := beq_eq_false_iff_ne.mpr c20; have c20b1 := bne_iff_ne.mpr c20
   by_cases c35 : t103 = 2
   ·rw [if_pos c35] at H
    have c35b0 := beq_iff_eq.mpr c35; have c35b1 := bne_eq_false_iff_eq.mpr c35; clear c35
    by_cases c36 : (l1_1.length : Int) > 0
    ·rw [if_pos c36] at H
     have c36b0 : decide (0 < (l1_1.length : Int)) = true := decide_eq_true c36; have c36b1 : decide (0 < l1_1.length) = true := decide_eq_true (by omega); clear c36; replace H := (ob H); obtain ⟨⟨t121, t122, t123⟩, A370, H⟩ := H; (try dsimp only at H); have A37 := Aside0.mk A370; clear A370
     obtain ⟨c38, H⟩ := ifn H
     have c38b0 := decide_eq_true c38; clear c38
     obtain ⟨c39, H⟩ := ifn H
     have c39b0 := decide_eq_true c39; clear c39
     obtain ⟨c40, H⟩ := ifn H
     have LMc40 := Aside0.mk c40; clear c40; obtain ⟨y125, hy125⟩ : ∃ y_ : List (S71), y_ = (l1_1 ++ [(⟨(rd_T71 l1_1 t121).f0, (rd_T71 l1_1 t121).f1⟩ : S71)]) := ⟨_, rfl⟩; replace H : (some (a1_0, y125, t122, t123)) = some (r1, r2, r3, r4) := RH hy125 H; have Ny125 := Aside0.mk hy125; clear hy125
     simp only [Option.some.injEq, Prod.mk.injEq] at H
     obtain ⟨rfl, rfl, rfl, rfl⟩ := H; obtain ⟨_, _, _, _⟩ := o4 NB101_102 NB102_101 NB101_0 NB0_101; obtain ⟨_, _, _, _⟩ := b2 BK101
     try go_wp2
     replace HO1_1 := am (Kd.R_drew HO1_1.out); replace BK101 := am (blk_drew BK101.out); replace BK102 := am (blk_drew BK102.out); replace HI0 := am (IsS96.drew HI0.out); replace HK := am (Kept.drew HK.out); replace HB := am (below_drew1 HB.out); have p124 : 0 ≤ (t121 : Int) := D4; have q124 : t121 < (l1_1.length : Int) := D4; obtain ⟨ad124, e124, hx124_0, hx124_1⟩ := at_T71 (Kd.R_reads' HO1_1.out).2.2 t121 p124 q124
     cases e124
     replace p124 := eq_true p124; replace q124 := eq_true q124; refine start_ (n := 15) (S := fun w' => w'.cell? ⟨gb101, 0, none⟩ = some (.int .i64 a1_0) ∧ w'.cell? ⟨gb101, 1, none⟩ = some (.slice (some ad124) l1_1.length co5) ∧ w'.cell? (ad124.add ((t121).toNat * 2)) = some (.int .i64 ((rd_T71 l1_1 t121).f0)) ∧ w'.cell? ⟨(ad124.add ((t121).toNat * 2)).block, (ad124.add ((t121).toNat * 2)).off + 1, none⟩ = some (.int .i64 ((rd_T71 l1_1 t121).f1))) (ds := [12, 14]) #[false, false, false, false, false, false, false, false, false, false, false, false, false, false, false] (by kernel_rfl) rfl rfl ⟨(blk_cell BK101.out 0).trans rfl, (blk_cell BK101.out 1).trans rfl, hx124_0, hx124_1⟩ (fun hHeld => ?_); refine with_tabW spec_l1Cur_marred.tab8 spec_l1Cur_marred.bits8 (fun HT_ HW_ => ?_); generalize w8.drew = w44 at HO1_1 BK101 BK102 HI0 HK HB hx124_0 hx124_1 hHeld ⊢; refine pq 0 32 rfl rfl HT_ ?_; refine pq 2 34 rfl rfl HT_ ?_; refine pq 4 36 rfl rfl HT_ ?_; refine pq 5 37 rfl rfl HT_ ?_; refine tq4 1 33 rfl rfl HT_ HW_ hHeld ?_; refine tq4 3 35 rfl rfl HT_ HW_ hHeld ?_; refine tq4 6 38 rfl rfl HT_ HW_ hHeld ?_; refine pq 7 39 rfl rfl HT_ ?_; refine oq 8 40 rfl rfl HT_ (fun K hK => ?_); refine goes_ Try.func141 (by kernel_rfl) rfl #[.pointer (some ⟨g, 0, none⟩), .int .i64 (l1_1.length : Int)] (by rfl) rfl rfl Q6 ?_
     with_reducible refine (spec_l1Cur_pick.calls g s0_0 t104 t105 (l1_1.length : Int) t121 t122 t123 w0 _ ?side1 ?side2 A37.out).mono ?_
     (case side1 => exact (Q3 HI0 NB0_101 NB0_102))
     (case side2 => exact (Q7 HB HI0))
     rintro e w45 ⟨rfl, hi, hb, hk⟩; have HS2_ := keep_cell hk (hHeld.2.2.1) (Q197 HI0 HO1_1); have HS3_ := keep_cell hk (hHeld.2.2.2) (Q197 HI0 HO1_1); refine ⟨_, rfl, ?_⟩; replace HO1_1 := am (Kd.R_mono (Kd.R_keep (IsS96.apart (show IsS96 w0 _ g s0_0 t104 t105 from Q3 HI0 NB0_101 NB0_102) (Q5 HO1_1) (by decide)) hk (fun _ h => h.2)) (fun _ h => h.1)); replace BK101 := am (KeepBut.blk hk (g' := gb101) (o := .cells #[.int .i64 a1_0, .slice (some ad124) l1_1.length co5] 30 (0, 0)) (Q0 BK101) NB101_0.out (by simp)); replace BK102 := am (KeepBut.blk hk (g' := gb102) (o := .cells #[.int .i64 0, .slice none 0 0] 30 (0, 0)) (Q0 BK102) NB102_0.out (by simp)); replace HK := am (Kept.of_keep (S := (fun k_ => (P1_1_ k_) ∨ k_ = g)) (Q33 HK GW101 GW102) hk (.inl (.inr rfl))); replace HB := am (hb); replace HI0 := am (hi); (try clear hb); (try clear hk); (try clear hi); refine hK.out _ _ ⟨(blk_cell BK101.out 0).trans rfl, (blk_cell BK101.out 1).trans rfl, HS2_, HS3_⟩ (fun hHeld => ?_); clear hK K; refine nz ?_
     refine pq 9 41 rfl rfl HT_ ?_; refine tq4 10 42 rfl rfl HT_ HW_ hHeld ?_; refine oq 11 43 rfl rfl HT_ (fun K hK => ?_); refine value_ (w1 := ?_) (v := ?_) (by rfl) rfl ?_ ?_
     rotate_left 2
     ·go_simp
      constructor
      ·rfl
      ·rfl
     refine hK.out _ _ ⟨(blk_cell (blk_alloc BK101.out _) 0).trans rfl, (blk_cell (blk_alloc BK101.out _) 1).trans rfl, (World.cell?_alloc_lt _ _ _ (World.block_lt_of_cell? _ _ (hHeld.2.2.1))).trans (hHeld.2.2.1), (World.cell?_alloc_lt _ _ _ (World.block_lt_of_cell? _ _ (hHeld.2.2.2))).trans (hHeld.2.2.2)⟩ (fun hHeld => ?_); clear hK K; refine nz ?_
     refine last_ (i := 12) (N := some 44) #[true, true, true, true, true, true, true, true, true, true, true, true, true, false, false] rfl rfl (one_of HT_.out (by kernel_rfl)) (by decide) (fun K hK => ?_); refine Kd.R_append_step k71 (w0 := w0) w0.heap.size (by rfl) (.tmp 33) (.tmp 43) 22 71 (.agg #[(.int .i64 0), (.int .i64 0)]) 16 rfl Try.underlying22 info71 rfl (by decide) (by omega) (.slice (some ad124) l1_1.length co5) l1_1 (⟨(rd_T71 l1_1 t121).f0, (rd_T71 l1_1 t121).f1⟩ : S71) [.int .i64 ((rd_T71 l1_1 t121).f0), .int .i64 ((rd_T71 l1_1 t121).f1)] (fun k_ => (P1_1_ k_ ∨ w.heap.size ≤ k_)) (fun _ => False) rfl rfl ?aP (fun _ hk => hk.elim) ?aF ?aO ?aB ?aS ?aL ?_
     (case aP => exact k71_mkM _ _ _ (⟨(rd_T71 l1_1 t121).f0, (rd_T71 l1_1 t121).f1⟩ : S71))
     (case aB => exact (Q7 HB HI0))
     (case aF => exact (fun k_ hk => (.inr (Nat.le_trans (Q199 HK) hk))))
     (case aO => exact (Q5 HO1_1))
     (case aS => exact (below_size (Q7 HB HI0)))
     (case aL => have := LMc40.out; omega)
     intro v126 w46 ho hb hg hat; rw [← Ny125.out] at ho; replace HI0 := am (IsS96.grown (Q3 HI0 NB0_101 NB0_102) hg (IsS96.own_ne HI0.out HO1_1.out (by decide))); replace BK101 := am (blk_grown (g := gb101) (o := .cells #[.int .i64 a1_0, .slice (some ad124) l1_1.length co5] 30 (0, 0)) (Q0 BK101) hg (Kd.R_ne HO1_1.out BK101.out (by decide))); replace BK102 := am (blk_grown (g := gb102) (o := .cells #[.int .i64 0, .slice none 0 0] 30 (0, 0)) (Q0 BK102) hg (Kd.R_ne HO1_1.out BK102.out (by decide))); replace HB := am (hb); replace HK := am (Kept.of_grown (S := (fun k_ => (P1_1_ k_) ∨ k_ = g)) hg (Q33 HK GW101 GW102) (fun k_ e_ => Or.imp_left Or.inl ((HO1_1.out.1 k_ e_)))); have HO127 := am (ho); clear HO1_1; clear ho hb hg hat; obtain ⟨Ao47, co47, eo47⟩ := Kd.R_slice HO127.out
     (first | subst eo47 | (injection eo47 with f1_ f2_ f3_; have f4_ := f1_.symm; have f5_ := f3_.symm; clear f1_ f2_ f3_; subst f4_; subst f5_))
     refine hK.out _ _ ?_; clear hK K; refine nz ?_
     refine pq 13 45 rfl rfl HT_ ?_; refine last_ (i := 14) (N := none) #[true, true, true, true, true, true, true, true, true, true, true, true, true, true, true] rfl rfl (one_of HT_.out (by kernel_rfl)) (by decide) (fun K hK => ?_); have hs48 : w46.cell? ⟨gb101, 1, none⟩ = some (.slice (some ad124) l1_1.length co5) := (blk_cell BK101.out 1).trans rfl; have hfs48 := blk_frozen BK101.out 1; have hns48_1 := NB102_101.out; have hms48_1 := NB101_102.out; refine skip_ (w1 := ?_) (by rfl) rfl ?_ ?_
     rotate_left
     ·go_simp
      rfl
     refine hK.out _ _ ?_; clear hK K; refine done_ (done_of HT_.out (by kernel_rfl)) ?_; obtain ⟨_, _, _, _⟩ := b2 BK101; obtain ⟨_, _⟩ := o2 NB102_0 NB0_102; obtain ⟨_, _, _, _⟩ := b2 BK102
     try go_wp2
     refine bodyPost_ret (results_cell_row rfl _ _ gb102 30 #[.int .i64 a1_0, .slice Ao47 y125.length co47] (0, 0) _ rfl (Q151 NB102_101 BK102) Try.underlying30 rfl (by kernel_rfl)) rfl ?_; exact ⟨_, Q19, by (with_reducible repeat (first | apply Kd.R_alloc | apply Kd.R_drewN | apply Kd.R_drew)); exact Kd.R_mono (Kd.R_far (p := ⟨gb102, 1, none⟩) (Kd.R_far (p := ⟨gb102, 0, none⟩) (Kd.R_far (p := ⟨gb101, 1, none⟩) (Kd.R_types (Kd.R_types HO127.out BK101.out (by decide)) BK102.out (by decide)) (fun _ hk => hk.1.2) (.slice Ao47 y125.length co47)) (fun _ hk => hk.2) (.int .i64 a1_0)) (fun _ hk => hk.2) (.slice Ao47 y125.length co47)) (fun _ hk => hk.1.1), Q3 HI0 NB0_101 NB0_102, Q124 HB HI0 GE101 GE102, Q33 HK GW101 GW102⟩
    ·rw [if_neg c36] at H
     have c36b0 : decide (0 < (l1_1.length : Int)) = false := decide_eq_false c36; have c36b1 : decide (0 < l1_1.length) = false := decide_eq_false (by omega); clear c36
     simp only [Option.some.injEq, Prod.mk.injEq] at H
     obtain ⟨rfl, rfl, rfl, rfl⟩ := H; obtain ⟨_, _, _, _⟩ := o4 NB101_102 NB102_101 NB101_0 NB0_101; obtain ⟨_, _, _, _⟩ := b2 BK101; obtain ⟨_, _⟩ := o2 NB102_0 NB0_102; obtain ⟨_, _, _, _⟩ := b2 BK102
     go_wp2
     refine bodyPost_ret (results_cell_row rfl _ _ gb102 30 #[.int .i64 a1_0, .slice Ao5 l1_1.length co5] (0, 0) _ rfl (Q161 BK102) Try.underlying30 rfl (by kernel_rfl)) rfl ?_; exact ⟨_, Q19, Q180 HO1_1 BK102, Q3 HI0 NB0_101 NB0_102, Q48 HB HI0 GE102, Q33 HK GW101 GW102⟩
   ·rw [if_neg c35] at H
    have c35b0 := beq_eq_false_iff_ne.mpr c35; have c35b1 := bne_iff_ne.mpr c35
    simp only [Option.some.injEq, Prod.mk.injEq] at H
    obtain ⟨rfl, rfl, rfl, rfl⟩ := H; obtain ⟨_, _, _, _⟩ := o4 NB101_102 NB102_101 NB101_0 NB0_101; obtain ⟨_, _, _, _⟩ := b2 BK101; obtain ⟨_, _⟩ := o2 NB102_0 NB0_102; obtain ⟨_, _, _, _⟩ := b2 BK102
    go_wp2
    refine bodyPost_ret (results_cell_row rfl _ _ gb102 30 #[.int .i64 a1_0, .slice Ao5 l1_1.length co5] (0, 0) _ rfl (Q161 BK102) Try.underlying30 rfl (by kernel_rfl)) rfl ?_; exact ⟨_, Q19, Q180 HO1_1 BK102, Q3 HI0 NB0_101 NB0_102, Q48 HB HI0 GE102, Q33 HK GW101 GW102⟩
/-! ### spec_l2Complete: function 115 -/
mutual
def spec_l2Complete.l0 : Nat → Int → Int → Int → List (S71) → Option (Int × (List (S71)))
 | 0, _, _, _, _ => none
 | k + 1, x0, x4, x106000, x106001 => if x4 < x0 then (spec_l2Complete.l1 k x0 x4 (wrap64 (x4 + 1)) x106000 x106001) else (some (x106000, x106001))
def spec_l2Complete.l1 : Nat → Int → Int → Int → Int → List (S71) → Option (Int × (List (S71)))
 | 0, _, _, _, _, _ => none
 | k + 1, x0, x4, x5, x106000, x106001 => if x5 < x0 then (if x106001.length < 8796093022208 then (spec_l2Complete.l1 k x0 x4 (wrap64 (x5 + 1)) x106000 (x106001 ++ [(⟨x4, x5⟩ : S71)])) else (none)) else (spec_l2Complete.l0 k x0 (wrap64 (x4 + 1)) x106000 x106001)
end
def spec_l2Complete.f (k : Nat) (a0 : Int) : Option (Int × (List (S71))) := spec_l2Complete.l0 k a0 0 a0 (([] : List (S71)))
theorem spec_l2Complete.mono_l : ∀ k, (∀ y0 y1 y2 y3, LeO (spec_l2Complete.l0 k y0 y1 y2 y3) (spec_l2Complete.l0 (k + 1) y0 y1 y2 y3)) ∧ (∀ y0 y1 y2 y3 y4, LeO (spec_l2Complete.l1 k y0 y1 y2 y3 y4) (spec_l2Complete.l1 (k + 1) y0 y1 y2 y3 y4))
 | 0 => ⟨fun _ _ _ _ r h => by simp [spec_l2Complete.l0] at h, fun _ _ _ _ _ r h => by simp [spec_l2Complete.l1] at h⟩
 | k + 1 => by
  obtain ⟨ih0, ih1⟩ := spec_l2Complete.mono_l k; refine ⟨?_, ?_⟩
  all_goals
   intros
   first | unfold spec_l2Complete.l0 | unfold spec_l2Complete.l1
   repeat' first | (with_reducible first | exact ih0 _ _ _ _ | exact ih1 _ _ _ _ _ | exact LeO.refl _ | exact LeO.none _ | refine LeO.ite ?_ ?_ | refine LeO.bind ?_ (fun _ => ?_))
theorem spec_l2Complete.mono : ∀ a0 k, LeO (spec_l2Complete.f k a0) (spec_l2Complete.f (k + 1) a0) := by
 intro a0 k
 obtain ⟨ih0, ih1⟩ := spec_l2Complete.mono_l k
 unfold spec_l2Complete.f
 repeat' first | (with_reducible first | exact ih0 _ _ _ _ | exact ih1 _ _ _ _ _ | exact LeO.refl _ | exact LeO.none _ | refine LeO.ite ?_ ?_ | refine LeO.bind ?_ (fun _ => ?_))
set_option maxHeartbeats 8000000 in
set_option maxRecDepth 100000 in
theorem spec_l2Complete.calls (k : Nat) (a0 : Int) (r1 : Int) (r2 : List (S71)) (w : World) (h : spec_l2Complete.f k a0 = some (r1, r2)) :
  Calls Try.prog 115 #[.int .i64 a0] w fun e w' => ∃ v1_ : Value, e = .returned (.agg #[.int .i64 r1, v1_]) ∧ Kd.R k71 71 w' w.heap.size (fun _ => True) v1_ r2 ∧ Below w.heap.size w w' := by
 have hu30 := Try.underlying30
 have hu71 := Try.underlying71
 have HB := am (Below.refl w.heap.size w)
 have H : (spec_l2Complete.l0 k a0 0 a0 (([] : List (S71)))) = some (r1, r2) := h
 clear h
 obtain ⟨y102, hy102⟩ : ∃ y_ : List (S71), y_ = (([] : List (S71))) := ⟨_, rfl⟩
 replace H : (spec_l2Complete.l0 k a0 0 a0 y102) = some (r1, r2) := RH hy102 H
 have Ny102 := Aside0.mk hy102
 clear hy102
 have H' := Aside0.mk H
 clear H
 go_enter Try.func115, Try.ntmps115
 go_wp2_with (first | ((with_reducible refine gate_dst (N := 2) rfl ?_); refine box_event (by rfl) (N := 2) (by rfl) (cs := #[.int .i64 0, .slice none 0 0]) (t := 30) Qr ?_; intro gb101 hg w2 hbox hb; have BK101 := am (hbox); have GE101 := ge HB hg; replace HB := bs HB hb; clear hb hbox hg) | ((with_reducible refine gate_dst (N := 7) rfl ?_); refine Kd.R_lit k71 _ 71 (by rfl) (N := 7) (by rfl) (xs := ([] : List (S71))) (inner := []) (ok := fun _ => True) (okp := fun _ => True) Qr ?hp (fun _ hk => hk) trivial (Below.refl _ _) (Nat.le_refl _) (by simp) ?_; (case hp => exact (Reps.none _ _)); intro v103 w3 ho4 hb hg_ hnew_; clear hg_ hnew_; (first | rw [← Ny102.out] at ho4 | (simp only [Int.reduceToNat] at ho4; rw [← Ny102.out] at ho4)); have HO104 := am (Kd.R_lower ho4 (below_size (Q1 HB))); replace BK101 := bb BK101 hb; replace HB := bs HB hb; clear hb ho4; obtain ⟨Ao5, co5, eo5⟩ := Kd.R_slice HO104.out; subst eo5) | ((with_reducible refine gate_dst (N := 3) rfl ?_); refine box_event (by rfl) (N := 3) (by rfl) (cs := #[.int .i64 0, .slice none 0 0]) (t := 30) Qr ?_; intro gb105 hg w6 hbox hb; replace HO104 := am (Kd.R_below (Q5 HO104) hb); have BK105 := am (hbox); have GE105 := ge HB hg; replace HB := bs HB hb; obtain ⟨NB101_105, NB105_101⟩ := ne2 BK101 hg; replace BK101 := bb BK101 hb; clear hb hbox hg; obtain ⟨_, _⟩ := o2 NB105_101 NB101_105; obtain ⟨_, _, _, _⟩ := b2 BK105))
 go_loopg [4] k (fun kq v4 w' => ∃ (x4_1 : Int) (x106001_1 : List (S71)) (u106001 : Value), v4 = .int .i64 x4_1 ∧ Aside0 (spec_l2Complete.l0 kq a0 x4_1 a0 x106001_1 = some (r1, r2)) ∧ Aside0 (kq ≤ k) ∧ Aside0 (Kd.R k71 71 w' w.heap.size (fun _ => True) u106001 x106001_1) ∧ Aside0 (w'.heap[gb101]? = some (.cells #[.int .i64 0, (.slice none 0 0)] 30 (0, 0))) ∧ Aside0 (w'.heap[gb105]? = some (.cells #[.int .i64 a0, u106001] 30 (0, 0))) ∧ Aside0 (Below w.heap.size w w'))
 case atStart => exact ⟨(0), (y102), (.slice Ao5 y102.length co5), Q17, H', ⟨Nat.le_refl _⟩, ⟨Q179 HO104 BK105⟩, ⟨Q2 NB101_105 BK101⟩, ⟨Q57 BK105⟩, ⟨Q4 HB GE105⟩⟩
 case round =>
  clear H'
  obtain ⟨x4_1, x106001_1, u106001, rfl, HA, HK1, HO_106001, BK101, BK105, HB⟩ := hrel
  cases gk with
  | zero => exact absurd HA.out (by simp [spec_l2Complete.l0])
  | succ k1 =>
   have H := HA.out; clear HA
   simp only [spec_l2Complete.l0] at H
   by_cases c9 : x4_1 < a0
   ·rw [if_pos c9] at H
    have c9b0 := decide_eq_true c9; clear c9; have H' := Aside0.mk H; clear H
    go_wp2
    go_loopg [5] k1 (fun kq v5 w' => ∃ (x5_2 : Int) (x106001_2 : List (S71)) (u106001 : Value), v5 = .int .i64 x5_2 ∧ Aside0 (spec_l2Complete.l1 kq a0 x4_1 x5_2 a0 x106001_2 = some (r1, r2)) ∧ Aside0 (kq ≤ k1) ∧ Aside0 (Kd.R k71 71 w' w.heap.size (fun _ => True) u106001 x106001_2) ∧ Aside0 (w'.heap[gb101]? = some (.cells #[.int .i64 0, (.slice none 0 0)] 30 (0, 0))) ∧ Aside0 (w'.heap[gb105]? = some (.cells #[.int .i64 a0, u106001] 30 (0, 0))) ∧ Aside0 (Below w.heap.size w w'))
    case atStart => exact ⟨(wrap64 (x4_1 + 1)), (x106001_1), (u106001), Q17, H', ⟨Nat.le_refl _⟩, ⟨Q171⟩, ⟨Q0 BK101⟩, ⟨Q0 BK105⟩, ⟨Q1 HB⟩⟩
    case round =>
     clear H'
     obtain ⟨x5_2, x106001_2, u106001, rfl, HA, HK2, HO_106001, BK101, BK105, HB⟩ := hrel
     cases gk with
     | zero => exact absurd HA.out (by simp [spec_l2Complete.l1])
     | succ k2 =>
      have H := HA.out; clear HA
      simp only [spec_l2Complete.l1] at H
      by_cases c10 : x5_2 < a0
      ·rw [if_pos c10] at H
       have c10b0 := decide_eq_true c10; clear c10
       obtain ⟨c11, H⟩ := ifn H
       have LMc11 := Aside0.mk c11; clear c11; obtain ⟨y106, hy106⟩ : ∃ y_ : List (S71), y_ = (x106001_2 ++ [(⟨x4_1, x5_2⟩ : S71)]) := ⟨_, rfl⟩; replace H : (spec_l2Complete.l1 k2 a0 x4_1 (wrap64 (x5_2 + 1)) a0 y106) = some (r1, r2) := RH hy106 H; have Ny106 := Aside0.mk hy106; clear hy106; have H' := Aside0.mk H; clear H; obtain ⟨_, _⟩ := o2 NB105_101 NB101_105; obtain ⟨_, _, _, _⟩ := b2 BK105
       go_wp2_with (first | ((with_reducible refine gate_builtin (b := .append) (xs := #[.tmp 22, .tmp 26]) rfl ?_); at_builtin; refine Kd.R_append k71 (w0 := w) w.heap.size rfl (.tmp 22) (.tmp 26) 22 71 (.agg #[(.int .i64 0), (.int .i64 0)]) 16 rfl Try.underlying22 info71 rfl (by decide) (by omega) u106001 x106001_2 (⟨x4_1, x5_2⟩ : S71) [.int .i64 x4_1, .int .i64 x5_2] (fun _ => True) (fun _ => False) rfl rfl ?aP (fun _ hk => hk.elim) ?aF ?aO ?aB ?aS ?aL ?_; (case aP => exact k71_mkM _ _ _ (⟨x4_1, x5_2⟩ : S71)); (case aB => exact (Q1 HB)); (case aF => exact (fun _ _ => trivial)); (case aO => exact Q171); (case aS => exact (below_size (Q1 HB))); (case aL => have := LMc11.out; omega); intro v107 w14 ho hb hg hat; rw [← Ny106.out] at ho; replace BK101 := am (blk_grown (g := gb101) (o := .cells #[.int .i64 0, .slice none 0 0] 30 (0, 0)) (Q0 BK101) hg (Kd.R_ne HO_106001.out BK101.out (by decide))); replace BK105 := am (blk_grown (g := gb105) (o := .cells #[.int .i64 a0, u106001] 30 (0, 0)) (Q0 BK105) hg (Kd.R_ne HO_106001.out BK105.out (by decide))); replace HB := am (hb); have HO108 := am (ho); clear HO_106001; clear ho hb hg hat; obtain ⟨Ao15, co15, eo15⟩ := Kd.R_slice HO108.out; subst eo15; obtain ⟨_, _, _, _⟩ := b2 BK105))
       go_roundg k2
       case measure => have := HK1.out; have := HK2.out; omega
       case rel => exact ⟨(wrap64 (x5_2 + 1)), (y106), (.slice Ao15 y106.length co15), Q17, H', ⟨Q168⟩, ⟨by (with_reducible repeat (first | apply Kd.R_alloc | apply Kd.R_drewN | apply Kd.R_drew)); exact Kd.R_mono (Kd.R_far (p := ⟨gb105, 1, none⟩) (Kd.R_types HO108.out BK105.out (by decide)) (fun _ hk => hk.2) (.slice Ao15 y106.length co15)) (fun _ hk => trivial)⟩, ⟨Q26 NB101_105 BK101⟩, ⟨Q188 BK105⟩, ⟨Q4 HB GE105⟩⟩
      ·rw [if_neg c10] at H
       have c10b0 := decide_eq_false c10; clear c10; have H' := Aside0.mk H; clear H
       go_wp2
       go_roundg k2
       case measure => have := HK1.out; have := HK2.out; omega
       case rel => exact ⟨(wrap64 (x4_1 + 1)), (x106001_2), (u106001), Q17, H', ⟨Q168⟩, ⟨Q171⟩, ⟨Q0 BK101⟩, ⟨Q0 BK105⟩, ⟨Q1 HB⟩⟩
   ·rw [if_neg c9] at H
    have c9b0 := decide_eq_false c9; clear c9
    simp only [Option.some.injEq, Prod.mk.injEq] at H
    obtain ⟨rfl, rfl⟩ := H; obtain ⟨_, _⟩ := o2 NB105_101 NB101_105; obtain ⟨_, _, _, _⟩ := b2 BK105; obtain ⟨_, _, _, _⟩ := b2 BK101; obtain ⟨Ao20, co20, eo20⟩ := Kd.R_slice HO_106001.out; subst eo20
    go_wp2
    refine bodyPost_ret (results_cell_row rfl _ _ gb101 30 #[.int .i64 a0, .slice Ao20 x106001_1.length co20] (0, 0) _ rfl (Q57 BK101) Try.underlying30 rfl (by kernel_rfl)) rfl ?_; exact ⟨_, Q19, by (with_reducible repeat (first | apply Kd.R_alloc | apply Kd.R_drewN | apply Kd.R_drew)); exact Kd.R_mono (Kd.R_far (p := ⟨gb101, 1, none⟩) (Kd.R_far (p := ⟨gb101, 0, none⟩) (Kd.R_types HO_106001.out BK101.out (by decide)) (fun _ hk => hk.2) (.int .i64 a0)) (fun _ hk => hk.2) (.slice Ao20 x106001_1.length co20)) (fun _ hk => trivial), Q4 HB GE101⟩
/-! ### spec_l2Path: function 111 -/
def spec_l2Path.l0 : Nat → Int → Int → Int → List (S71) → Option (Int × (List (S71)))
 | 0, _, _, _, _ => none
 | k + 1, x0, x4, x106000, x106001 => if (wrap64 (x4 + 1)) < x0 then (if x106001.length < 8796093022208 then (spec_l2Path.l0 k x0 (wrap64 (x4 + 1)) x106000 (x106001 ++ [(⟨x4, wrap64 (x4 + 1)⟩ : S71)])) else (none)) else (some (x106000, x106001))
def spec_l2Path.f (k : Nat) (a0 : Int) : Option (Int × (List (S71))) := spec_l2Path.l0 k a0 0 a0 (([] : List (S71)))
theorem spec_l2Path.mono_l : ∀ k, (∀ y0 y1 y2 y3, LeO (spec_l2Path.l0 k y0 y1 y2 y3) (spec_l2Path.l0 (k + 1) y0 y1 y2 y3))
 | 0 => fun _ _ _ _ r h => by simp [spec_l2Path.l0] at h
 | k + 1 => by
  have ih0 := spec_l2Path.mono_l k
  all_goals
   intros
   first | unfold spec_l2Path.l0
   repeat' first | (with_reducible first | exact ih0 _ _ _ _ | exact LeO.refl _ | exact LeO.none _ | refine LeO.ite ?_ ?_ | refine LeO.bind ?_ (fun _ => ?_))
theorem spec_l2Path.mono : ∀ a0 k, LeO (spec_l2Path.f k a0) (spec_l2Path.f (k + 1) a0) := by
 intro a0 k
 have ih0 := spec_l2Path.mono_l k
 unfold spec_l2Path.f
 repeat' first | (with_reducible first | exact ih0 _ _ _ _ | exact LeO.refl _ | exact LeO.none _ | refine LeO.ite ?_ ?_ | refine LeO.bind ?_ (fun _ => ?_))
set_option maxHeartbeats 8000000 in
set_option maxRecDepth 100000 in
theorem spec_l2Path.calls (k : Nat) (a0 : Int) (r1 : Int) (r2 : List (S71)) (w : World) (h : spec_l2Path.f k a0 = some (r1, r2)) :
  Calls Try.prog 111 #[.int .i64 a0] w fun e w' => ∃ v1_ : Value, e = .returned (.agg #[.int .i64 r1, v1_]) ∧ Kd.R k71 71 w' w.heap.size (fun _ => True) v1_ r2 ∧ Below w.heap.size w w' := by
 have hu30 := Try.underlying30
 have hu71 := Try.underlying71
 have HB := am (Below.refl w.heap.size w)
 have H : (spec_l2Path.l0 k a0 0 a0 (([] : List (S71)))) = some (r1, r2) := h
 clear h
 obtain ⟨y102, hy102⟩ : ∃ y_ : List (S71), y_ = (([] : List (S71))) := ⟨_, rfl⟩
 replace H : (spec_l2Path.l0 k a0 0 a0 y102) = some (r1, r2) := RH hy102 H
 have Ny102 := Aside0.mk hy102
 clear hy102
 have H' := Aside0.mk H
 clear H
 go_enter Try.func111, Try.ntmps111
 go_wp2_with (first | ((with_reducible refine gate_dst (N := 2) rfl ?_); refine box_event (by rfl) (N := 2) (by rfl) (cs := #[.int .i64 0, .slice none 0 0]) (t := 30) Qr ?_; intro gb101 hg w2 hbox hb; have BK101 := am (hbox); have GE101 := ge HB hg; replace HB := bs HB hb; clear hb hbox hg) | ((with_reducible refine gate_dst (N := 6) rfl ?_); refine Kd.R_lit k71 _ 71 (by rfl) (N := 6) (by rfl) (xs := ([] : List (S71))) (inner := []) (ok := fun _ => True) (okp := fun _ => True) Qr ?hp (fun _ hk => hk) trivial (Below.refl _ _) (Nat.le_refl _) (by simp) ?_; (case hp => exact (Reps.none _ _)); intro v103 w3 ho4 hb hg_ hnew_; clear hg_ hnew_; (first | rw [← Ny102.out] at ho4 | (simp only [Int.reduceToNat] at ho4; rw [← Ny102.out] at ho4)); have HO104 := am (Kd.R_lower ho4 (below_size (Q1 HB))); replace BK101 := bb BK101 hb; replace HB := bs HB hb; clear hb ho4; obtain ⟨Ao5, co5, eo5⟩ := Kd.R_slice HO104.out; subst eo5) | ((with_reducible refine gate_dst (N := 3) rfl ?_); refine box_event (by rfl) (N := 3) (by rfl) (cs := #[.int .i64 0, .slice none 0 0]) (t := 30) Qr ?_; intro gb105 hg w6 hbox hb; replace HO104 := am (Kd.R_below (Q5 HO104) hb); have BK105 := am (hbox); have GE105 := ge HB hg; replace HB := bs HB hb; obtain ⟨NB101_105, NB105_101⟩ := ne2 BK101 hg; replace BK101 := bb BK101 hb; clear hb hbox hg; obtain ⟨_, _⟩ := o2 NB105_101 NB101_105; obtain ⟨_, _, _, _⟩ := b2 BK105))
 go_loopg [4] k (fun kq v4 w' => ∃ (x4_1 : Int) (x106001_1 : List (S71)) (u106001 : Value), v4 = .int .i64 x4_1 ∧ Aside0 (spec_l2Path.l0 kq a0 x4_1 a0 x106001_1 = some (r1, r2)) ∧ Aside0 (kq ≤ k) ∧ Aside0 (Kd.R k71 71 w' w.heap.size (fun _ => True) u106001 x106001_1) ∧ Aside0 (w'.heap[gb101]? = some (.cells #[.int .i64 0, (.slice none 0 0)] 30 (0, 0))) ∧ Aside0 (w'.heap[gb105]? = some (.cells #[.int .i64 a0, u106001] 30 (0, 0))) ∧ Aside0 (Below w.heap.size w w'))
 case atStart => exact ⟨(0), (y102), (.slice Ao5 y102.length co5), Q17, H', ⟨Nat.le_refl _⟩, ⟨Q179 HO104 BK105⟩, ⟨Q2 NB101_105 BK101⟩, ⟨Q57 BK105⟩, ⟨Q4 HB GE105⟩⟩
 case round =>
  clear H'
  obtain ⟨x4_1, x106001_1, u106001, rfl, HA, HK1, HO_106001, BK101, BK105, HB⟩ := hrel
  cases gk with
  | zero => exact absurd HA.out (by simp [spec_l2Path.l0])
  | succ k1 =>
   have H := HA.out; clear HA
   simp only [spec_l2Path.l0] at H
   by_cases c9 : (wrap64 (x4_1 + 1)) < a0
   ·rw [if_pos c9] at H
    have c9b0 := decide_eq_true c9; clear c9
    obtain ⟨c10, H⟩ := ifn H
    have LMc10 := Aside0.mk c10; clear c10; obtain ⟨y106, hy106⟩ : ∃ y_ : List (S71), y_ = (x106001_1 ++ [(⟨x4_1, wrap64 (x4_1 + 1)⟩ : S71)]) := ⟨_, rfl⟩; replace H : (spec_l2Path.l0 k1 a0 (wrap64 (x4_1 + 1)) a0 y106) = some (r1, r2) := RH hy106 H; have Ny106 := Aside0.mk hy106; clear hy106; have H' := Aside0.mk H; clear H; obtain ⟨_, _⟩ := o2 NB105_101 NB101_105; obtain ⟨_, _, _, _⟩ := b2 BK105
    go_wp2_with (first | ((with_reducible refine gate_builtin (b := .append) (xs := #[.tmp 15, .tmp 20]) rfl ?_); at_builtin; refine Kd.R_append k71 (w0 := w) w.heap.size rfl (.tmp 15) (.tmp 20) 22 71 (.agg #[(.int .i64 0), (.int .i64 0)]) 16 rfl Try.underlying22 info71 rfl (by decide) (by omega) u106001 x106001_1 (⟨x4_1, wrap64 (x4_1 + 1)⟩ : S71) [.int .i64 x4_1, .int .i64 (wrap64 (x4_1 + 1))] (fun _ => True) (fun _ => False) rfl rfl ?aP (fun _ hk => hk.elim) ?aF ?aO ?aB ?aS ?aL ?_; (case aP => exact k71_mkM _ _ _ (⟨x4_1, wrap64 (x4_1 + 1)⟩ : S71)); (case aB => exact (Q1 HB)); (case aF => exact (fun _ _ => trivial)); (case aO => exact Q171); (case aS => exact (below_size (Q1 HB))); (case aL => have := LMc10.out; omega); intro v107 w13 ho hb hg hat; rw [← Ny106.out] at ho; replace BK101 := am (blk_grown (g := gb101) (o := .cells #[.int .i64 0, .slice none 0 0] 30 (0, 0)) (Q0 BK101) hg (Kd.R_ne HO_106001.out BK101.out (by decide))); replace BK105 := am (blk_grown (g := gb105) (o := .cells #[.int .i64 a0, u106001] 30 (0, 0)) (Q0 BK105) hg (Kd.R_ne HO_106001.out BK105.out (by decide))); replace HB := am (hb); have HO108 := am (ho); clear HO_106001; clear ho hb hg hat; obtain ⟨Ao14, co14, eo14⟩ := Kd.R_slice HO108.out; subst eo14; obtain ⟨_, _, _, _⟩ := b2 BK105))
    go_roundg k1
    case measure => have := HK1.out; omega
    case rel => exact ⟨(wrap64 (x4_1 + 1)), (y106), (.slice Ao14 y106.length co14), Q17, H', ⟨Q163⟩, ⟨by (with_reducible repeat (first | apply Kd.R_alloc | apply Kd.R_drewN | apply Kd.R_drew)); exact Kd.R_mono (Kd.R_far (p := ⟨gb105, 1, none⟩) (Kd.R_types HO108.out BK105.out (by decide)) (fun _ hk => hk.2) (.slice Ao14 y106.length co14)) (fun _ hk => trivial)⟩, ⟨Q26 NB101_105 BK101⟩, ⟨Q188 BK105⟩, ⟨Q4 HB GE105⟩⟩
   ·rw [if_neg c9] at H
    have c9b0 := decide_eq_false c9; clear c9
    simp only [Option.some.injEq, Prod.mk.injEq] at H
    obtain ⟨rfl, rfl⟩ := H; obtain ⟨_, _⟩ := o2 NB105_101 NB101_105; obtain ⟨_, _, _, _⟩ := b2 BK105; obtain ⟨_, _, _, _⟩ := b2 BK101; obtain ⟨Ao19, co19, eo19⟩ := Kd.R_slice HO_106001.out; subst eo19
    go_wp2
    refine bodyPost_ret (results_cell_row rfl _ _ gb101 30 #[.int .i64 a0, .slice Ao19 x106001_1.length co19] (0, 0) _ rfl (Q57 BK101) Try.underlying30 rfl (by kernel_rfl)) rfl ?_; exact ⟨_, Q19, by (with_reducible repeat (first | apply Kd.R_alloc | apply Kd.R_drewN | apply Kd.R_drew)); exact Kd.R_mono (Kd.R_far (p := ⟨gb101, 1, none⟩) (Kd.R_far (p := ⟨gb101, 0, none⟩) (Kd.R_types HO_106001.out BK101.out (by decide)) (fun _ hk => hk.2) (.int .i64 a0)) (fun _ hk => hk.2) (.slice Ao19 x106001_1.length co19)) (fun _ hk => trivial), Q4 HB GE101⟩
end Go.Proofs.Ytcjddikalgnhpaa.P
