/- Functions of the program as Lean functions, that each call comes to what they say, and what holds of them; part 1 of 8; no conditions beyond those that each theorem names. -/
import Derived.Test.YtcjddikalgnhpaaProg
import Derived.Test.YtcjddikalgnhpaaOwn
import Derived.WalkSpells
import Derived.Lib.SliceRun
import Derived.Lib.Hide
import Derived.Below
import Derived.Deep.Draws
import Derived.Deep.AppendLies
import Derived.Maps.AppendAt
import Derived.OwnWalk
import Derived.Laws.BytesArg
import Derived.Laws.MakeOwn
import Derived.Laws.OwnMore
import Derived.Deep.OwnRows
import Derived.Tactics
import Derived.Lib.ConvBytes
import Derived.Laws.Slices
import Derived.WalkKit
import Derived.KernelRfl
import Derived.RowKit3
import Derived.Deep.LoopGhost
import Derived.Deep.QuietTactic
import Derived.BigQuiet
import Derived.WideLaws
import Derived.Deep.DeepCutAuto
import Derived.Deep.CutBlock
import Derived.Deep.RegionHeld3
import Derived.Laws.Rows
import Derived.Lib.AppendStr
import Derived.ArgAppend
import Derived.Laws.IdiomCopy
import Derived.OrdersHeld
import Derived.Laws.BitsLemmas
import Derived.RowKit
import Derived.Laws.CopyOwn
import Derived.Test.YtcjddikalgnhpaaWd
namespace Go.Proofs.Ytcjddikalgnhpaa.P
open Go.RowKit Go.Proofs.YtcjddikalgnhpaaW.PrintWords Go.Proofs.YtcjddikalgnhpaaW.PrintLast Go.Proofs.YtcjddikalgnhpaaW.PrintMore
attribute [local go_sem] max2_int min2_int max_two min_two max_three min_three max_four min_four   -- for this text's walks alone
set_option linter.unusedVariables false
set_option linter.unusedSimpArgs false
def errW : Option Int → Value
  | none => .nilIface
  | some c => .iface 0 (.int .i64 c)
theorem errW_none : errW none = .nilIface := rfl
theorem errW_some (c : Int) : errW (some c) = .iface 0 (.int .i64 c) := rfl
theorem info3 : (Try.prog.info? 3).map (fun i => (i.zero, i.size, i.bytes)) = some (some (.int .i64 0), 1, 8) := by kernel_rfl
theorem info5 : (Try.prog.info? 5).map (fun i => (i.zero, i.size, i.bytes)) = some (some (.int .u8 0), 1, 1) := by kernel_rfl
theorem info71 : (Try.prog.info? 71).map (fun i => (i.zero, i.size, i.bytes)) = some (some (.agg #[(.int .i64 0), (.int .i64 0)]), 2, 16) := by kernel_rfl
-- the values' own types
/-! #### struct type 71 -/
structure S71 where
  f0 : Int
  f1 : Int
def z71 : S71 := ⟨(0 : Int), (0 : Int)⟩
def k71 : Kd S71 := Kd.iso (Kd.pair (Kd.int .i64) (Kd.int .i64)) (fun x : S71 => (x.f0, x.f1))
theorem k71_open {w : World} {x : S71} {cs : List Value} (h : k71.K w x cs) : cs = [.int .i64 x.f0, .int .i64 x.f1] := by
  obtain ⟨_, _, rfl, rfl, rfl⟩ := h
  exact rfl
theorem k71_openM {w : World} {base : Nat} {ok : Nat → Prop} {x : S71} {cs : List Value} (h : k71.M w base ok x cs) : cs = [.int .i64 x.f0, .int .i64 x.f1] := by
  obtain ⟨_, _, rfl, rfl, rfl⟩ := h
  exact rfl
theorem k71_mk (w : World) (x : S71)  : k71.K w x [.int .i64 x.f0, .int .i64 x.f1] := ⟨[.int .i64 x.f0], [.int .i64 x.f1], rfl, rfl, rfl⟩
theorem k71_mkM (w : World) (base : Nat) (ok : Nat → Prop) (x : S71)  : k71.M w base ok x [.int .i64 x.f0, .int .i64 x.f1] := ⟨[.int .i64 x.f0], [.int .i64 x.f1], rfl, rfl, rfl⟩
def rd_T71 (xs : List S71) (i : Int) : S71 := xs.getD i.toNat z71
theorem at_T71 {w : World} {A : Option Addr} {n : Nat} {xs : List S71} (h : Kd.C k71 w A n xs) (i : Int) (h0 : 0 ≤ i) (h1 : i < n) : ∃ ad , A = some ad ∧ w.cell? (ad.add (i.toNat * 2)) = some (.int .i64 (rd_T71 xs i).f0) ∧ w.cell? ⟨(ad.add (i.toNat * 2)).block, (ad.add (i.toNat * 2)).off + 1, none⟩ = some (.int .i64 (rd_T71 xs i).f1) := by
  obtain ⟨ad, c, e, _, hK, hc0⟩ := Kd.C_get h z71 i h0 h1
  have hc : ∀ j u, c[j]? = some u → w.cell? (ad.add (i.toNat * 2 + j)) = some u := hc0
  obtain rfl := k71_open hK
  exact ⟨ad, e, hc 0 _ rfl, by rw [← add_field _ _ 1 (by omega)]; exact hc 1 _ rfl⟩
def rd_L3 (xs : List (List Int)) (i : Int) : (List Int) := xs.getD i.toNat ([] : List Int)
theorem at_L3 {w : World} {A : Option Addr} {n : Nat} {xs : List (List Int)} (h : Kd.C (Kd.slice 5 (Kd.int .u8)) w A n xs) (i : Int) (h0 : 0 ≤ i) (h1 : i < n) : ∃ ad A0 c0, A = some ad ∧ w.cell? (ad.add i.toNat) = some (.slice A0 (rd_L3 xs i).length c0) ∧ (rd_L3 xs i).length ≤ c0 ∧ (Kd.int .u8).C w A0 (rd_L3 xs i).length (rd_L3 xs i) := by
  obtain ⟨ad, c, e, _, hK, hc0⟩ := Kd.C_get h ([] : List Int) i h0 h1
  have hc : ∀ j u, c[j]? = some u → w.cell? (ad.add (i.toNat * 1 + j)) = some u := hc0
  obtain ⟨A0, c0, rfl, l0, g0⟩ := hK
  exact ⟨ad, A0, c0, e, by have hq := hc 0 _ rfl; rwa [Nat.mul_one, Nat.add_zero] at hq, l0, g0⟩
def rd_L4 (xs : List (List S71)) (i : Int) : (List S71) := xs.getD i.toNat ([] : List S71)
theorem at_L4 {w : World} {A : Option Addr} {n : Nat} {xs : List (List S71)} (h : Kd.C (Kd.slice 71 k71) w A n xs) (i : Int) (h0 : 0 ≤ i) (h1 : i < n) : ∃ ad A0 c0, A = some ad ∧ w.cell? (ad.add i.toNat) = some (.slice A0 (rd_L4 xs i).length c0) ∧ (rd_L4 xs i).length ≤ c0 ∧ k71.C w A0 (rd_L4 xs i).length (rd_L4 xs i) := by
  obtain ⟨ad, c, e, _, hK, hc0⟩ := Kd.C_get h ([] : List S71) i h0 h1
  have hc : ∀ j u, c[j]? = some u → w.cell? (ad.add (i.toNat * 1 + j)) = some u := hc0
  obtain ⟨A0, c0, rfl, l0, g0⟩ := hK
  exact ⟨ad, A0, c0, e, by have hq := hc 0 _ rfl; rwa [Nat.mul_one, Nat.add_zero] at hq, l0, g0⟩
/-! #### struct type 30 -/
structure S30 where
  f0 : Int
  f1 : (List S71)
def z30 : S30 := ⟨(0 : Int), ([] : List S71)⟩
def k30 : Kd S30 := Kd.iso (Kd.pair (Kd.int .i64) (Kd.slice 71 k71)) (fun x : S30 => (x.f0, x.f1))
theorem k30_open {w : World} {x : S30} {cs : List Value} (h : k30.K w x cs) : ∃ A1 c1, cs = [.int .i64 x.f0, .slice A1 x.f1.length c1] ∧ x.f1.length ≤ c1 ∧ k71.C w A1 x.f1.length x.f1 := by
  obtain ⟨_, _, rfl, rfl, ⟨A1, c1, rfl, l1, g1⟩⟩ := h
  exact ⟨A1, c1, rfl, l1, g1⟩
theorem k30_openM {w : World} {base : Nat} {ok : Nat → Prop} {x : S30} {cs : List Value} (h : k30.M w base ok x cs) : ∃ v1, cs = [.int .i64 x.f0, v1] ∧ k71.R 71 w base ok v1 x.f1 := by
  obtain ⟨_, _, rfl, rfl, ⟨v1, rfl, g1⟩⟩ := h
  exact ⟨v1, rfl, g1⟩
theorem k30_mk (w : World) (x : S30) {A1 : Option Addr} {c1 : Nat} (l1 : x.f1.length ≤ c1) (g1 : k71.C w A1 x.f1.length x.f1) : k30.K w x [.int .i64 x.f0, .slice A1 x.f1.length c1] := ⟨[.int .i64 x.f0], [.slice A1 x.f1.length c1], rfl, rfl, ⟨A1, c1, rfl, l1, g1⟩⟩
theorem k30_mkM (w : World) (base : Nat) (ok : Nat → Prop) (x : S30) {v1 : Value} (g1 : k71.R 71 w base ok v1 x.f1) : k30.M w base ok x [.int .i64 x.f0, v1] := ⟨[.int .i64 x.f0], [v1], rfl, rfl, ⟨v1, rfl, g1⟩⟩
def rd_T30 (xs : List S30) (i : Int) : S30 := xs.getD i.toNat z30
theorem at_T30 {w : World} {A : Option Addr} {n : Nat} {xs : List S30} (h : Kd.C k30 w A n xs) (i : Int) (h0 : 0 ≤ i) (h1 : i < n) : ∃ ad A1 c1, A = some ad ∧ w.cell? (ad.add (i.toNat * 2)) = some (.int .i64 (rd_T30 xs i).f0) ∧ w.cell? ⟨(ad.add (i.toNat * 2)).block, (ad.add (i.toNat * 2)).off + 1, none⟩ = some (.slice A1 (rd_T30 xs i).f1.length c1) ∧ (rd_T30 xs i).f1.length ≤ c1 ∧ k71.C w A1 (rd_T30 xs i).f1.length (rd_T30 xs i).f1 := by
  obtain ⟨ad, c, e, _, hK, hc0⟩ := Kd.C_get h z30 i h0 h1
  have hc : ∀ j u, c[j]? = some u → w.cell? (ad.add (i.toNat * 2 + j)) = some u := hc0
  obtain ⟨A1, c1, rfl, l1, g1⟩ := k30_open hK
  exact ⟨ad, A1, c1, e, hc 0 _ rfl, by rw [← add_field _ _ 1 (by omega)]; exact hc 1 _ rfl, l1, g1⟩
def rd_L6 (xs : List (List Int)) (i : Int) : (List Int) := xs.getD i.toNat ([] : List Int)
theorem at_L6 {w : World} {A : Option Addr} {n : Nat} {xs : List (List Int)} (h : Kd.C (Kd.slice 3 (Kd.int .i64)) w A n xs) (i : Int) (h0 : 0 ≤ i) (h1 : i < n) : ∃ ad A0 c0, A = some ad ∧ w.cell? (ad.add i.toNat) = some (.slice A0 (rd_L6 xs i).length c0) ∧ (rd_L6 xs i).length ≤ c0 ∧ (Kd.int .i64).C w A0 (rd_L6 xs i).length (rd_L6 xs i) := by
  obtain ⟨ad, c, e, _, hK, hc0⟩ := Kd.C_get h ([] : List Int) i h0 h1
  have hc : ∀ j u, c[j]? = some u → w.cell? (ad.add (i.toNat * 1 + j)) = some u := hc0
  obtain ⟨A0, c0, rfl, l0, g0⟩ := hK
  exact ⟨ad, A0, c0, e, by have hq := hc 0 _ rfl; rwa [Nat.mul_one, Nat.add_zero] at hq, l0, g0⟩
/-! #### struct type 90 -/
structure S90 where
  f0 : (List Int)
def z90 : S90 := ⟨([] : List Int)⟩
def k90 : Kd S90 := Kd.iso (Kd.slice 3 (Kd.int .i64)) (fun x : S90 => x.f0)
theorem k90_open {w : World} {x : S90} {cs : List Value} (h : k90.K w x cs) : ∃ A0 c0, cs = [.slice A0 x.f0.length c0] ∧ x.f0.length ≤ c0 ∧ (Kd.int .i64).C w A0 x.f0.length x.f0 := by
  obtain ⟨A0, c0, rfl, l0, g0⟩ := h
  exact ⟨A0, c0, rfl, l0, g0⟩
theorem k90_openM {w : World} {base : Nat} {ok : Nat → Prop} {x : S90} {cs : List Value} (h : k90.M w base ok x cs) : ∃ v0, cs = [v0] ∧ (Kd.int .i64).R 3 w base ok v0 x.f0 := by
  obtain ⟨v0, rfl, g0⟩ := h
  exact ⟨v0, rfl, g0⟩
theorem k90_mk (w : World) (x : S90) {A0 : Option Addr} {c0 : Nat} (l0 : x.f0.length ≤ c0) (g0 : (Kd.int .i64).C w A0 x.f0.length x.f0) : k90.K w x [.slice A0 x.f0.length c0] := ⟨A0, c0, rfl, l0, g0⟩
theorem k90_mkM (w : World) (base : Nat) (ok : Nat → Prop) (x : S90) {v0 : Value} (g0 : (Kd.int .i64).R 3 w base ok v0 x.f0) : k90.M w base ok x [v0] := ⟨v0, rfl, g0⟩
def rd_T90 (xs : List S90) (i : Int) : S90 := xs.getD i.toNat z90
theorem at_T90 {w : World} {A : Option Addr} {n : Nat} {xs : List S90} (h : Kd.C k90 w A n xs) (i : Int) (h0 : 0 ≤ i) (h1 : i < n) : ∃ ad A0 c0, A = some ad ∧ w.cell? (ad.add i.toNat) = some (.slice A0 (rd_T90 xs i).f0.length c0) ∧ (rd_T90 xs i).f0.length ≤ c0 ∧ (Kd.int .i64).C w A0 (rd_T90 xs i).f0.length (rd_T90 xs i).f0 := by
  obtain ⟨ad, c, e, _, hK, hc0⟩ := Kd.C_get h z90 i h0 h1
  have hc : ∀ j u, c[j]? = some u → w.cell? (ad.add (i.toNat * 1 + j)) = some u := hc0
  obtain ⟨A0, c0, rfl, l0, g0⟩ := k90_open hK
  exact ⟨ad, A0, c0, e, by have hq := hc 0 _ rfl; rwa [Nat.mul_one, Nat.add_zero] at hq, l0, g0⟩
end Go.Proofs.Ytcjddikalgnhpaa.P
namespace Go.Proofs.Ytcjddikalgnhpaa.P
open Go.RowKit Go.Proofs.YtcjddikalgnhpaaW.PrintWords Go.Proofs.YtcjddikalgnhpaaW.PrintLast Go.Proofs.YtcjddikalgnhpaaW.PrintMore
section
variable {P : Program} {ops : Array Oper} {Q : Exit → Act → World → Prop} {md : Region.Mode} {S : World → Prop} {ds : List Nat}
theorem pq {oi : Oper} {v : Value} {fuel : Nat} {l : Array Bool} {a a' : Act} {w : World} {T : Bool × List (List Nat × List Nat)} (i n : Nat) (hi : ops[i]? = some oi) (hN : oi.dst = some n) (hT : Aside0 (rtab md ops = T)) (h : wpAnyLast P md ops Q S ds fuel (l.setIfInBounds i true) a' w) (hk : anyT T l.toList (l.setIfInBounds i true).toList i = true := by kernel_rfl) (hQ : ∀ c a w, Q (.panic c) (a.put oi.dst v) w → Q (.panic c) a w := by exact fun _ _ _ h => h) (hp : Region.wanted oi (yielded ops a.tmps) = true := by rfl) (hv : ∀ w, (execOp a.eval oi).run P w = .ok (.value v) w := by intro w'; go_simp; with_reducible rfl) (ha : a.put (some n) v = a' := by simp only [Act.put, List.setIfInBounds_toArray, List.set_cons_zero, List.set_cons_succ, i64_w, i32_w]; rfl) : wpAnyLast P md ops Q S ds (fuel + 1) l a w := pure_ (l.setIfInBounds i true) hi hN (any_of hT.out hk) hQ (Or.inl ⟨hp, hv⟩) ha h
theorem pu {oi : Oper} {fuel : Nat} {l : Array Bool} {a a' : Act} {w : World} {T : Bool × List (List Nat × List Nat)} (i n : Nat) (hi : ops[i]? = some oi) (hN : oi.dst = some n) (hT : Aside0 (rtab md ops = T)) (h : wpAnyLast P md ops Q S ds fuel (l.setIfInBounds i true) a' w) (hk : anyT T l.toList (l.setIfInBounds i true).toList i = true := by kernel_rfl) (hQ : ∀ c a w, Q (.panic c) (a.put oi.dst undef) w → Q (.panic c) a w := by exact fun _ _ _ h => h) (hp : Region.wanted oi (yielded ops a.tmps) = false := by rfl) (ha : a.put (some n) undef = a' := by simp only [Act.put, List.setIfInBounds_toArray, List.set_cons_zero, List.set_cons_succ, i64_w, i32_w]; rfl) : wpAnyLast P md ops Q S ds (fuel + 1) l a w := pure_ (l.setIfInBounds i true) hi hN (any_of hT.out hk) hQ (Or.inr ⟨hp, rfl⟩) ha h
theorem tq2 {oi : Oper} {v : Value} {fuel : Nat} {l : Array Bool} {a a' : Act} {w : World} {T : Bool × List (List Nat × List Nat)} (i n : Nat) (hi : ops[i]? = some oi) (hN : oi.dst = some n) (hT : Aside0 (rtab md ops = T)) {B : List Nat} (hB : Aside0 (waitsOk T.2 B = true)) (hS : S w) (h : wpAnyLast P md ops Q S ds fuel (l.setIfInBounds i true) a' w) (hk : takeW T B ds l.toList (l.setIfInBounds i true).toList i = true := by kernel_rfl) (hQ : ∀ c a w, Q (.panic c) (a.put oi.dst v) w → Q (.panic c) a w := by exact fun _ _ _ h => h) (hp : Region.wanted oi (yielded ops a.tmps) = true := by rfl) (hv : ∀ w, S w → (execOp a.eval oi).run P w = .ok (.value v) w := by rintro w' ⟨s0, s1⟩; go_simp; with_reducible rfl) (ha : a.put (some n) v = a' := by simp only [Act.put, List.setIfInBounds_toArray, List.set_cons_zero, List.set_cons_succ, i64_w, i32_w]; rfl) : wpAnyLast P md ops Q S ds (fuel + 1) l a w := take_ (l.setIfInBounds i true) hi hN (take_ofW hT.out hB.out hk) hQ (Or.inl ⟨hp, hv⟩) hS ha h
theorem tq3 {oi : Oper} {v : Value} {fuel : Nat} {l : Array Bool} {a a' : Act} {w : World} {T : Bool × List (List Nat × List Nat)} (i n : Nat) (hi : ops[i]? = some oi) (hN : oi.dst = some n) (hT : Aside0 (rtab md ops = T)) {B : List Nat} (hB : Aside0 (waitsOk T.2 B = true)) (hS : S w) (h : wpAnyLast P md ops Q S ds fuel (l.setIfInBounds i true) a' w) (hk : takeW T B ds l.toList (l.setIfInBounds i true).toList i = true := by kernel_rfl) (hQ : ∀ c a w, Q (.panic c) (a.put oi.dst v) w → Q (.panic c) a w := by exact fun _ _ _ h => h) (hp : Region.wanted oi (yielded ops a.tmps) = true := by rfl) (hv : ∀ w, S w → (execOp a.eval oi).run P w = .ok (.value v) w := by rintro w' ⟨s0, s1, s2⟩; go_simp; with_reducible rfl) (ha : a.put (some n) v = a' := by simp only [Act.put, List.setIfInBounds_toArray, List.set_cons_zero, List.set_cons_succ, i64_w, i32_w]; rfl) : wpAnyLast P md ops Q S ds (fuel + 1) l a w := take_ (l.setIfInBounds i true) hi hN (take_ofW hT.out hB.out hk) hQ (Or.inl ⟨hp, hv⟩) hS ha h
theorem tq4 {oi : Oper} {v : Value} {fuel : Nat} {l : Array Bool} {a a' : Act} {w : World} {T : Bool × List (List Nat × List Nat)} (i n : Nat) (hi : ops[i]? = some oi) (hN : oi.dst = some n) (hT : Aside0 (rtab md ops = T)) {B : List Nat} (hB : Aside0 (waitsOk T.2 B = true)) (hS : S w) (h : wpAnyLast P md ops Q S ds fuel (l.setIfInBounds i true) a' w) (hk : takeW T B ds l.toList (l.setIfInBounds i true).toList i = true := by kernel_rfl) (hQ : ∀ c a w, Q (.panic c) (a.put oi.dst v) w → Q (.panic c) a w := by exact fun _ _ _ h => h) (hp : Region.wanted oi (yielded ops a.tmps) = true := by rfl) (hv : ∀ w, S w → (execOp a.eval oi).run P w = .ok (.value v) w := by rintro w' ⟨s0, s1, s2, s3⟩; go_simp; with_reducible rfl) (ha : a.put (some n) v = a' := by simp only [Act.put, List.setIfInBounds_toArray, List.set_cons_zero, List.set_cons_succ, i64_w, i32_w]; rfl) : wpAnyLast P md ops Q S ds (fuel + 1) l a w := take_ (l.setIfInBounds i true) hi hN (take_ofW hT.out hB.out hk) hQ (Or.inl ⟨hp, hv⟩) hS ha h
theorem tq5 {oi : Oper} {v : Value} {fuel : Nat} {l : Array Bool} {a a' : Act} {w : World} {T : Bool × List (List Nat × List Nat)} (i n : Nat) (hi : ops[i]? = some oi) (hN : oi.dst = some n) (hT : Aside0 (rtab md ops = T)) {B : List Nat} (hB : Aside0 (waitsOk T.2 B = true)) (hS : S w) (h : wpAnyLast P md ops Q S ds fuel (l.setIfInBounds i true) a' w) (hk : takeW T B ds l.toList (l.setIfInBounds i true).toList i = true := by kernel_rfl) (hQ : ∀ c a w, Q (.panic c) (a.put oi.dst v) w → Q (.panic c) a w := by exact fun _ _ _ h => h) (hp : Region.wanted oi (yielded ops a.tmps) = true := by rfl) (hv : ∀ w, S w → (execOp a.eval oi).run P w = .ok (.value v) w := by rintro w' ⟨s0, s1, s2, s3, s4⟩; go_simp; with_reducible rfl) (ha : a.put (some n) v = a' := by simp only [Act.put, List.setIfInBounds_toArray, List.set_cons_zero, List.set_cons_succ, i64_w, i32_w]; rfl) : wpAnyLast P md ops Q S ds (fuel + 1) l a w := take_ (l.setIfInBounds i true) hi hN (take_ofW hT.out hB.out hk) hQ (Or.inl ⟨hp, hv⟩) hS ha h
theorem tq6 {oi : Oper} {v : Value} {fuel : Nat} {l : Array Bool} {a a' : Act} {w : World} {T : Bool × List (List Nat × List Nat)} (i n : Nat) (hi : ops[i]? = some oi) (hN : oi.dst = some n) (hT : Aside0 (rtab md ops = T)) {B : List Nat} (hB : Aside0 (waitsOk T.2 B = true)) (hS : S w) (h : wpAnyLast P md ops Q S ds fuel (l.setIfInBounds i true) a' w) (hk : takeW T B ds l.toList (l.setIfInBounds i true).toList i = true := by kernel_rfl) (hQ : ∀ c a w, Q (.panic c) (a.put oi.dst v) w → Q (.panic c) a w := by exact fun _ _ _ h => h) (hp : Region.wanted oi (yielded ops a.tmps) = true := by rfl) (hv : ∀ w, S w → (execOp a.eval oi).run P w = .ok (.value v) w := by rintro w' ⟨s0, s1, s2, s3, s4, s5⟩; go_simp; with_reducible rfl) (ha : a.put (some n) v = a' := by simp only [Act.put, List.setIfInBounds_toArray, List.set_cons_zero, List.set_cons_succ, i64_w, i32_w]; rfl) : wpAnyLast P md ops Q S ds (fuel + 1) l a w := take_ (l.setIfInBounds i true) hi hN (take_ofW hT.out hB.out hk) hQ (Or.inl ⟨hp, hv⟩) hS ha h
theorem tq11 {oi : Oper} {v : Value} {fuel : Nat} {l : Array Bool} {a a' : Act} {w : World} {T : Bool × List (List Nat × List Nat)} (i n : Nat) (hi : ops[i]? = some oi) (hN : oi.dst = some n) (hT : Aside0 (rtab md ops = T)) {B : List Nat} (hB : Aside0 (waitsOk T.2 B = true)) (hS : S w) (h : wpAnyLast P md ops Q S ds fuel (l.setIfInBounds i true) a' w) (hk : takeW T B ds l.toList (l.setIfInBounds i true).toList i = true := by kernel_rfl) (hQ : ∀ c a w, Q (.panic c) (a.put oi.dst v) w → Q (.panic c) a w := by exact fun _ _ _ h => h) (hp : Region.wanted oi (yielded ops a.tmps) = true := by rfl) (hv : ∀ w, S w → (execOp a.eval oi).run P w = .ok (.value v) w := by rintro w' ⟨s0, s1, s2, s3, s4, s5, s6, s7, s8, s9, s10⟩; go_simp; with_reducible rfl) (ha : a.put (some n) v = a' := by simp only [Act.put, List.setIfInBounds_toArray, List.set_cons_zero, List.set_cons_succ, i64_w, i32_w]; rfl) : wpAnyLast P md ops Q S ds (fuel + 1) l a w := take_ (l.setIfInBounds i true) hi hN (take_ofW hT.out hB.out hk) hQ (Or.inl ⟨hp, hv⟩) hS ha h
theorem oq {oi : Oper} {fuel : Nat} {l : Array Bool} {a : Act} {w : World} {T : Bool × List (List Nat × List Nat)} (i n : Nat) (hi : ops[i]? = some oi) (hN : oi.dst = some n) (hT : Aside0 (rtab md ops = T)) (h : ∀ K : Act → World → Prop, Shut (∀ a' w', S w' → (S w' → wpAnyLast P md ops Q S ds fuel (l.setIfInBounds i true) a' w') → K a' w') → if Region.wanted oi (yielded ops a.tmps) = true then Oper.wp P oi a w K Q else K (a.put (some n) undef) w) (hk : (readyT T.2 l.toList == [i] && l.toList.set i true == (l.setIfInBounds i true).toList) = true := by kernel_rfl) (hd : i ∉ ds := by decide) : wpAnyLast P md ops Q S ds (fuel + 1) l a w := one_ (l.setIfInBounds i true) hi hN (one_of hT.out hk) hd h
end
theorem am {p : Prop} (h : p) : Aside0 p := ⟨h⟩
theorem ob {α β : Type} {o : Option α} {f : α → Option β} {b : β} (h : o.bind f = some b) : ∃ a, o = some a ∧ f a = some b := Option.bind_eq_some_iff.mp h
theorem RH {p q : Prop} {α : Type} {a b : α} (e : a = b) (H : q) (h : a = b → q → p := by intro e_ H; first | (rw [e_]; with_reducible exact H) | (have H2_ := (Option.bind_some _ _).symm.trans H; rw [e_]; with_reducible exact H2_) | (have H2_ := (Option.bind_some _ _).symm.trans H; with_reducible exact H2_) | with_reducible exact H | (rw [e_]; exact H) | exact H) : p := h e H
theorem Q0 {p q0 : Prop} (x0 : Aside0 q0) (h : q0 → p := by intro hq0_; repeat (first | (with_reducible first | exact hq0_ | apply below_alloc | apply pw_below_drewN | apply below_drew1) | exact hq0_)) : p := h x0.out
theorem Q1 {p q0 : Prop} (x0 : Aside0 q0) (h : q0 → p := by intro hq0_; (with_reducible repeat (first | refine blk_drewN ?_ _ | refine blk_drew ?_ | refine blk_alloc ?_ _)); exact hq0_) : p := h x0.out
theorem Q2 {p q0 : Prop} (x0 : Aside0 q0) (h : q0 → p := by intro hq0_; (with_reducible repeat (first | apply Kd.R_alloc | apply Kd.R_drewN | apply Kd.R_drew)); exact hq0_) : p := h x0.out
theorem Q3 {p : Prop} (h : p := by (try simp only [List.map_toArray, List.map_cons, List.map_nil]); first | done | rfl | (simp only [List.length_drop, List.length_take]; rfl)) : p := h
theorem Q4 {p q0 q1 q2 : Prop} (x0 : Aside0 q0) (x1 : Aside0 q1) (x2 : Aside0 q2) (h : q0 → q1 → q2 → p := by intro hq0_ hq1_ hq2_; repeat (first | (with_reducible first | exact hq0_ | apply IsS96.alloc | apply IsS96.drewN | apply IsS96.drew | apply IsS96.set_1 | apply IsS96.set_2 | refine IsS96.far ?_ hq1_ _ | refine IsS96.far ?_ hq2_ _) | exact hq0_)) : p := h x0.out x1.out x2.out
theorem Q5 {p q0 q1 : Prop} (x0 : Aside0 q0) (x1 : Aside0 q1) (h : q0 → q1 → p := by intro hq0_ hq1_; repeat (first | (with_reducible first | exact hq0_ | apply below_alloc | apply pw_below_drewN | apply below_drew1 | refine below_set ?_ (IsS96.ge hq1_)) | exact hq0_)) : p := h x0.out x1.out
theorem Q6 {p q0 q1 q2 : Prop} (x0 : Aside0 q0) (x1 : Aside0 q1) (x2 : Aside0 q2) (h : q0 → q1 → q2 → p := by intro hq0_ hq1_ hq2_; repeat (first | (with_reducible first | exact hq0_ | apply KeepBut.set_ | apply keep_drewN | apply keep_drew | apply keep_alloc | refine keep_far ?_ hq1_ _ | refine keep_far ?_ hq2_ _) | exact hq0_)) : p := h x0.out x1.out x2.out
theorem Q7 {p q0 q1 : Prop} (x0 : Aside0 q0) (x1 : Aside0 q1) (h : q0 → q1 → p := by intro hq0_ hq1_; repeat (first | exact (Kd.C_below hq0_ hq1_) | (with_reducible refine Kd.C_alloc ?_ _) | (with_reducible refine Kd.C_drewN ?_ _) | (with_reducible refine Kd.C_drew ?_))) : p := h x0.out x1.out
theorem Q8 {p q0 q1 : Prop} (x0 : Aside0 q0) (x1 : Aside0 q1) (h : q0 → q1 → p := by intro hq0_ hq1_; repeat (first | (with_reducible first | exact hq0_ | apply IsS96.alloc | apply IsS96.drewN | apply IsS96.drew | apply IsS96.set_1 | apply IsS96.set_2 | refine IsS96.far ?_ hq1_ _) | exact hq0_)) : p := h x0.out x1.out
theorem Q9 {p q0 q1 : Prop} (x0 : Aside0 q0) (x1 : Aside0 q1) (h : q0 → q1 → p := by intro hq0_ hq1_; repeat (first | (with_reducible first | exact hq0_ | apply KeepBut.set_ | apply keep_drewN | apply keep_drew | apply keep_alloc | refine keep_far ?_ hq1_ _) | exact hq0_)) : p := h x0.out x1.out
theorem Q10 {p : Prop} (h : p := by first | (with_reducible assumption) | assumption) : p := h
theorem Q11 {p : Prop} (h : p := by first | rfl | (simp [errW_none, errW_some] <;> rfl) | (simp [*, errW_none, errW_some] <;> rfl)) : p := h
theorem Q12 {p q0 q1 : Prop} (x0 : Aside0 q0) (x1 : Aside0 q1) (h : q0 → q1 → p := by intro hq0_ hq1_; (with_reducible repeat (first | refine blk_drewN ?_ _ | refine blk_drew ?_ | refine blk_alloc ?_ _)); refine blk_far ?_ hq0_ _; (with_reducible repeat (first | refine blk_drewN ?_ _ | refine blk_drew ?_ | refine blk_alloc ?_ _)); refine blk_far ?_ hq0_ _; (with_reducible repeat (first | refine blk_drewN ?_ _ | refine blk_drew ?_ | refine blk_alloc ?_ _)); exact hq1_) : p := h x0.out x1.out
theorem Q13 {p : Prop} (h : p := by first | rfl | (simp; done) | (simp [*]; done)) : p := h
theorem Q14 {p q0 : Prop} (x0 : Aside0 q0) (h : q0 → p := by intro hq0_; repeat (first | exact (Kd.R_reads' hq0_).2.2 | (with_reducible refine Kd.C_alloc ?_ _) | (with_reducible refine Kd.C_drewN ?_ _) | (with_reducible refine Kd.C_drew ?_))) : p := h x0.out
theorem Q15 {p q0 : Prop} (x0 : Aside0 q0) (h : q0 → p := by intro hq0_; repeat (first | (with_reducible first | exact hq0_ | apply IsS96.alloc | apply IsS96.drewN | apply IsS96.drew | apply IsS96.set_1 | apply IsS96.set_2) | exact hq0_)) : p := h x0.out
theorem Q16 {p q0 q1 : Prop} (x0 : Aside0 q0) (x1 : Aside0 q1) (h : q0 → q1 → p := by intro hq0_ hq1_; repeat (first | (with_reducible first | exact hq0_ | apply below_alloc | apply pw_below_drewN | apply below_drew1 | refine below_set ?_ hq1_) | exact hq0_)) : p := h x0.out x1.out
theorem Q17 {p q0 q1 q2 : Prop} (x0 : Aside0 q0) (x1 : Aside0 q1) (x2 : Aside0 q2) (h : q0 → q1 → q2 → p := by intro hq0_ hq1_ hq2_; repeat (first | (with_reducible first | exact hq0_ | apply below_alloc | apply pw_below_drewN | apply below_drew1 | refine below_set ?_ (IsS96.ge hq1_) | refine below_set ?_ hq2_) | exact hq0_)) : p := h x0.out x1.out x2.out
theorem Q18 {p q0 : Prop} (x0 : Aside0 q0) (h : q0 → p := by intro hq0_; repeat (first | (with_reducible first | exact hq0_ | apply KeepBut.set_ | apply keep_drewN | apply keep_drew | apply keep_alloc) | exact hq0_)) : p := h x0.out
theorem Q19 {p q0 q1 q2 : Prop} (x0 : Aside0 q0) (x1 : Aside0 q1) (x2 : Aside0 q2) (h : q0 → q1 → q2 → p := by intro hq0_ hq1_ hq2_; repeat (first | (with_reducible first | exact hq0_ | apply Kept.alloc | apply Kept.drewN | apply Kept.drew | refine Kept.setCell ?_ (.inl (.inr rfl)) _ | refine Kept.setCell ?_ (.inr hq1_) _ | refine Kept.setCell ?_ (.inr hq2_) _) | exact hq0_)) : p := h x0.out x1.out x2.out
theorem Q20 {p : Prop} (h : p := by repeat (first | exact Drawn0.refl _ | apply Drawn0.step)) : p := h
theorem Q21 {p q0 q1 : Prop} (x0 : Aside0 q0) (x1 : Aside0 q1) (h : q0 → q1 → p := by intro hq0_ hq1_; (with_reducible repeat (first | apply Kd.R_alloc | apply Kd.R_drewN | apply Kd.R_drew)); exact (Kd.R_mono (Kd.R_far (p := ⟨gb131, 1, none⟩) (Kd.R_far (p := ⟨gb131, 0, none⟩) (Kd.R_types hq0_ hq1_ (by decide)) (fun _ hk => hk.2) (.int .i64 t126)) (fun _ hk => hk.2) (.slice Ao37 t127.length co37)) (fun _ h_ => h_.1))) : p := h x0.out x1.out
theorem Q22 {p q0 : Prop} (x0 : Aside0 q0) (h : q0 → p := by intro hq0_; (with_reducible repeat (first | apply Kd.R_alloc | apply Kd.R_drewN | apply Kd.R_drew)); exact Kd.R_mono hq0_ (fun _ hk => hk.2)) : p := h x0.out
theorem Q23 {p : Prop} (h : p := by (with_reducible repeat (first | apply Kd.R_alloc | apply Kd.R_drewN | apply Kd.R_drew)); exact HO_5.out) : p := h
theorem Q24 {p : Prop} (h : p := by (with_reducible repeat (first | apply Kd.R_alloc | apply Kd.R_drewN | apply Kd.R_drew)); exact HO_109001.out) : p := h
theorem Q25 {p : Prop} (h : p := by rw [hg]; exact (below_size (Q0 HB))) : p := h
theorem Q26 {p q0 q1 : Prop} (x0 : Aside0 q0) (x1 : Aside0 q1) (h : q0 → q1 → p := by intro hq0_ hq1_; first | (have hq_ := Kd.C_below hq0_ hq1_; rw [show (l0.take (x5_1 : Int).toNat).length = x5_1.toNat from (by rw [List.length_take]; have h_ : (x5_1 : Int) ≤ (l0.length : Int) := of_decide_eq_true Q10; omega)] at hq_; exact hq_) | (rw [← show (l0.take (x5_1 : Int).toNat).length = x5_1.toNat from (by rw [List.length_take]; have h_ : (x5_1 : Int) ≤ (l0.length : Int) := of_decide_eq_true Q10; omega)]; repeat (first | exact (Kd.C_below hq0_ hq1_) | (with_reducible refine Kd.C_alloc ?_ _) | (with_reducible refine Kd.C_drewN ?_ _) | (with_reducible refine Kd.C_drew ?_))) | (repeat (first | exact (Kd.C_below hq0_ hq1_) | (with_reducible refine Kd.C_alloc ?_ _) | (with_reducible refine Kd.C_drewN ?_ _) | (with_reducible refine Kd.C_drew ?_)))) : p := h x0.out x1.out
theorem Q27 {p q0 : Prop} (x0 : Aside0 q0) (h : q0 → p := by intro hq0_; (with_reducible repeat (first | refine blk_drewN ?_ _ | refine blk_drew ?_ | refine blk_alloc ?_ _)); refine blk_put (cs := #[.int .i64 t102, .slice none 0 0]) ?_ 1 _ rfl; (with_reducible repeat (first | refine blk_drewN ?_ _ | refine blk_drew ?_ | refine blk_alloc ?_ _)); refine blk_put (cs := #[.int .i64 0, .slice none 0 0]) ?_ 0 _ rfl; (with_reducible repeat (first | refine blk_drewN ?_ _ | refine blk_drew ?_ | refine blk_alloc ?_ _)); exact hq0_) : p := h x0.out
theorem Q28 {p q0 : Prop} (x0 : Aside0 q0) (h : q0 → p := by intro hq0_; (with_reducible repeat (first | refine blk_drewN ?_ _ | refine blk_drew ?_ | refine blk_alloc ?_ _)); refine blk_far ?_ (by have h_ := Kd.R_ne HO_107000.out hq0_ (by decide); intro e_; exact h_ (by rw [e_]; rfl)) _; (with_reducible repeat (first | refine blk_drewN ?_ _ | refine blk_drew ?_ | refine blk_alloc ?_ _)); exact hq0_) : p := h x0.out
theorem Q29 {p q0 q1 : Prop} (x0 : Aside0 q0) (x1 : Aside0 q1) (h : q0 → q1 → p := by intro hq0_ hq1_; (with_reducible repeat (first | refine blk_drewN ?_ _ | refine blk_drew ?_ | refine blk_alloc ?_ _)); refine blk_far ?_ hq0_ _; (with_reducible repeat (first | refine blk_drewN ?_ _ | refine blk_drew ?_ | refine blk_alloc ?_ _)); exact hq1_) : p := h x0.out x1.out
theorem Q30 {p q0 : Prop} (x0 : Aside0 q0) (h : q0 → p := by intro hq0_; (with_reducible repeat (first | refine blk_drewN ?_ _ | refine blk_drew ?_ | refine blk_alloc ?_ _)); refine blk_put (cs := #[.int .i64 ((rd_T71 l0_1 x3_1).f0), .int .i64 0]) ?_ 1 _ rfl; (with_reducible repeat (first | refine blk_drewN ?_ _ | refine blk_drew ?_ | refine blk_alloc ?_ _)); refine blk_put (cs := #[.int .i64 0, .int .i64 0]) ?_ 0 _ rfl; (with_reducible repeat (first | refine blk_drewN ?_ _ | refine blk_drew ?_ | refine blk_alloc ?_ _)); exact hq0_) : p := h x0.out
theorem Q31 {p q0 : Prop} (x0 : Aside0 q0) (h : q0 → p := by intro hq0_; first | exact hq0_ | ((with_reducible repeat (first | refine blk_drewN ?_ _ | refine blk_drew ?_ | refine blk_alloc ?_ _)); exact hq0_)) : p := h x0.out
theorem Q32 {p : Prop} (h : p := by (with_reducible repeat (first | apply Kd.R_alloc | apply Kd.R_drewN | apply Kd.R_drew)); exact HO_111001.out) : p := h
theorem Q33 {p : Prop} (h : p := by (with_reducible repeat (first | apply Kd.R_alloc | apply Kd.R_drewN | apply Kd.R_drew)); exact HO_132001.out) : p := h
theorem Q34 {p : Prop} (h : p := by (with_reducible repeat (first | apply Kd.R_alloc | apply Kd.R_drewN | apply Kd.R_drew)); exact HO_20.out) : p := h
theorem Q35 {p : Prop} (h : p := by (with_reducible repeat (first | apply Kd.R_alloc | apply Kd.R_drewN | apply Kd.R_drew)); exact HO_24.out) : p := h
theorem Q36 {p q0 : Prop} (x0 : Aside0 q0) (h : q0 → p := by intro hq0_; (with_reducible repeat (first | refine blk_drewN ?_ _ | refine blk_drew ?_ | refine blk_alloc ?_ _)); refine blk_put (cs := #[.int .i64 a0, .slice none 0 0]) ?_ 1 _ rfl; (with_reducible repeat (first | refine blk_drewN ?_ _ | refine blk_drew ?_ | refine blk_alloc ?_ _)); refine blk_put (cs := #[.int .i64 0, .slice none 0 0]) ?_ 0 _ rfl; (with_reducible repeat (first | refine blk_drewN ?_ _ | refine blk_drew ?_ | refine blk_alloc ?_ _)); exact hq0_) : p := h x0.out
theorem Q37 {p : Prop} (h : p := by (with_reducible repeat (first | apply Kd.R_alloc | apply Kd.R_drewN | apply Kd.R_drew)); exact HO_119001.out) : p := h
theorem Q38 {p q0 q1 q2 : Prop} (x0 : Aside0 q0) (x1 : Aside0 q1) (x2 : Aside0 q2) (h : q0 → q1 → q2 → p := by intro hq0_ hq1_ hq2_; repeat (first | (with_reducible first | exact hq0_ | apply below_alloc | apply pw_below_drewN | apply below_drew1 | refine below_set ?_ hq1_ | refine below_set ?_ hq2_) | exact hq0_)) : p := h x0.out x1.out x2.out
theorem Q39 {p : Prop} (h : p := by (with_reducible repeat (first | apply Kd.R_alloc | apply Kd.R_drewN | apply Kd.R_drew)); exact HO_28.out) : p := h
theorem Q40 {p q0 : Prop} (x0 : Aside0 q0) (h : q0 → p := by intro hq0_; (with_reducible repeat (first | apply Kd.R_alloc | apply Kd.R_drewN | apply Kd.R_drew)); exact Kd.R_mono hq0_ (fun _ hk => trivial)) : p := h x0.out
theorem Q41 {p : Prop} (h : p := by (with_reducible repeat (first | apply Kd.R_alloc | apply Kd.R_drewN | apply Kd.R_drew)); exact HO_6.out) : p := h
theorem Q42 {p : Prop} (h : p := by simp only [putAll, Act.put, List.setIfInBounds_toArray, List.set_cons_zero, List.set_cons_succ]) : p := h
theorem Q43 {p : Prop} (h : p := by (with_reducible repeat (first | apply Kd.R_alloc | apply Kd.R_drewN | apply Kd.R_drew)); exact HO_4.out) : p := h
theorem Q44 {p : Prop} (h : p := by have := HK1.out; omega) : p := h
theorem Q45 {p q0 : Prop} (x0 : Aside0 q0) (h : q0 → p := by intro hq0_; (with_reducible repeat (first | apply Kd.R_alloc | apply Kd.R_drewN | apply Kd.R_drew)); exact Kd.R_mono hq0_ (fun _ hk => ⟨hk.2, hk.1⟩)) : p := h x0.out
theorem Q46 {p : Prop} (h : p := by rw [hg]; exact Nat.ne_of_lt (blk_lt (g := gb101) (o := .cells #[.int .i64 0, .slice none 0 0] 30 (0, 0)) (Q1 BK101))) : p := h
theorem Q47 {p : Prop} (h : p := by rw [hg]; exact Nat.ne_of_gt (blk_lt (g := gb101) (o := .cells #[.int .i64 0, .slice none 0 0] 30 (0, 0)) (Q1 BK101))) : p := h
theorem Q48 {p q0 q1 : Prop} (x0 : Aside0 q0) (x1 : Aside0 q1) (h : q0 → q1 → p := by intro hq0_ hq1_; (with_reducible repeat (first | apply Kd.R_alloc | apply Kd.R_drewN | apply Kd.R_drew)); exact (Kd.R_mono (Kd.R_far (p := ⟨gb110, 1, none⟩) (Kd.R_far (p := ⟨gb110, 0, none⟩) (Kd.R_types hq0_ hq1_ (by decide)) (fun _ hk => hk.2) (.int .i64 t102)) (fun _ hk => hk.2) (.slice Ao22 t103.length co22)) (fun _ h_ => h_.1))) : p := h x0.out x1.out
theorem Q49 {p : Prop} (h : p := by first | exact Kd.R_nil _ _ _ _ _ | exact Kd.N_nil _ _ _ _ _ | exact Kd.V_nil _ _ _ _ _ | exact Kd.Q_nil _ _ _ _ _ | exact Kd.S_nil _ _ _ _ _) : p := h
theorem Q50 {p q0 : Prop} (x0 : Aside0 q0) (h : q0 → p := by intro hq0_; (with_reducible repeat (first | apply Kd.R_alloc | apply Kd.R_drewN | apply Kd.R_drew)); exact Kd.R_mono hq0_ (fun _ hk => ⟨hk.1.2, hk.2⟩)) : p := h x0.out
theorem Q51 {p : Prop} (h : p := by rw [hg]; exact (keep_size (w := w) (g := g) (row := none) (Q18 HK))) : p := h
theorem Q52 {p q0 q1 : Prop} (x0 : Aside0 q0) (x1 : Aside0 q1) (h : q0 → q1 → p := by intro hq0_ hq1_; (with_reducible repeat (first | apply Kd.R_alloc | apply Kd.R_drewN | apply Kd.R_drew)); exact (Kd.R_mono (Kd.R_far (p := ⟨gb106, 1, none⟩) (Kd.R_far (p := ⟨gb106, 0, none⟩) (Kd.R_types hq0_ hq1_ (by decide)) (fun _ hk => hk.2) (.int .i64 t102)) (fun _ hk => hk.2) (.slice Ao9 t103.length co9)) (fun _ h_ => h_.1))) : p := h x0.out x1.out
theorem Q53 {p : Prop} (h : p := by (try simp only [List.map_toArray, List.map_cons, List.map_nil]); first | done | rfl) : p := h
theorem Q54 {p : Prop} (h : p := by rw [hg]; exact Nat.ne_of_lt (blk_lt (g := gb101) (o := .cells #[.int .i64 a0_0, .slice (some ad103) l0_1.length c0_1] 30 (0, 0)) (Q1 BK101))) : p := h
theorem Q55 {p : Prop} (h : p := by rw [hg]; exact Nat.ne_of_gt (blk_lt (g := gb101) (o := .cells #[.int .i64 a0_0, .slice (some ad103) l0_1.length c0_1] 30 (0, 0)) (Q1 BK101))) : p := h
theorem Q56 {p q0 q1 : Prop} (x0 : Aside0 q0) (x1 : Aside0 q1) (h : q0 → q1 → p := by intro hq0_ hq1_; first | (have hq_ := Kd.C_below hq0_ hq1_; rw [show (l0.drop (x5_1 : Int).toNat).length = (l0.length - x5_1.toNat) from List.length_drop] at hq_; exact hq_) | (rw [← show (l0.drop (x5_1 : Int).toNat).length = (l0.length - x5_1.toNat) from List.length_drop]; repeat (first | exact (Kd.C_below hq0_ hq1_) | (with_reducible refine Kd.C_alloc ?_ _) | (with_reducible refine Kd.C_drewN ?_ _) | (with_reducible refine Kd.C_drew ?_))) | (repeat (first | exact (Kd.C_below hq0_ hq1_) | (with_reducible refine Kd.C_alloc ?_ _) | (with_reducible refine Kd.C_drewN ?_ _) | (with_reducible refine Kd.C_drew ?_)))) : p := h x0.out x1.out
theorem Q57 {p q0 q1 : Prop} (x0 : Aside0 q0) (x1 : Aside0 q1) (h : q0 → q1 → p := by intro hq0_ hq1_; (with_reducible repeat (first | refine blk_drewN ?_ _ | refine blk_drew ?_ | refine blk_alloc ?_ _)); refine blk_put (cs := #[.int .i64 a1_0, .slice none 0 0]) ?_ 1 _ rfl; (with_reducible repeat (first | refine blk_drewN ?_ _ | refine blk_drew ?_ | refine blk_alloc ?_ _)); refine blk_put (cs := #[.int .i64 0, .slice none 0 0]) ?_ 0 _ rfl; (with_reducible repeat (first | refine blk_drewN ?_ _ | refine blk_drew ?_ | refine blk_alloc ?_ _)); refine blk_far ?_ hq0_ _; (with_reducible repeat (first | refine blk_drewN ?_ _ | refine blk_drew ?_ | refine blk_alloc ?_ _)); exact hq1_) : p := h x0.out x1.out
theorem Q58 {p : Prop} (h : p := by first | omega | exact Nat.le_refl _) : p := h
theorem Q59 {p : Prop} (h : p := by repeat (first | exact (Kd.R_reads' HO_28.out).2.2 | (with_reducible refine Kd.C_alloc ?_ _) | (with_reducible refine Kd.C_drewN ?_ _) | (with_reducible refine Kd.C_drew ?_))) : p := h
theorem Q60 {p : Prop} (h : p := by rw [hg]; exact Nat.ne_of_lt (IsS96.lt (show IsS96 w0 _ g s0_0 s0_1 s0_2 from Q15 HI0))) : p := h
theorem Q61 {p : Prop} (h : p := by rw [hg]; exact Nat.ne_of_gt (IsS96.lt (show IsS96 w0 _ g s0_0 s0_1 s0_2 from Q15 HI0))) : p := h
theorem Q62 {p : Prop} (h : p := by (with_reducible repeat (first | apply Kd.R_alloc | apply Kd.R_drewN | apply Kd.R_drew)); exact HO_7.out) : p := h
theorem Q63 {p q0 : Prop} (x0 : Aside0 q0) (h : q0 → p := by intro hq0_; (with_reducible repeat (first | refine blk_drewN ?_ _ | refine blk_drew ?_ | refine blk_alloc ?_ _)); refine blk_put (cs := #[.slice none 0 0]) ?_ 0 _ rfl; (with_reducible repeat (first | refine blk_drewN ?_ _ | refine blk_drew ?_ | refine blk_alloc ?_ _)); exact hq0_) : p := h x0.out
theorem Q64 {p : Prop} (h : p := by rw [hg]; exact (keep_size (w := w) (g := g) (row := none) (Q9 HK GW101))) : p := h
theorem Q65 {p q0 : Prop} (x0 : Aside0 q0) (h : q0 → p := by intro hq0_; repeat (first | exact (Kd.C_below hq0_ (Q0 HB)) | (with_reducible refine Kd.C_alloc ?_ _) | (with_reducible refine Kd.C_drewN ?_ _) | (with_reducible refine Kd.C_drew ?_))) : p := h x0.out
theorem Q66 {p q0 : Prop} (x0 : Aside0 q0) (h : q0 → p := by intro hq0_; (with_reducible repeat (first | refine blk_drewN ?_ _ | refine blk_drew ?_ | refine blk_alloc ?_ _)); refine blk_put (cs := #[.int .i64 (wrap64 (1 + t102)), .slice none 0 0]) ?_ 1 _ rfl; (with_reducible repeat (first | refine blk_drewN ?_ _ | refine blk_drew ?_ | refine blk_alloc ?_ _)); refine blk_put (cs := #[.int .i64 0, .slice none 0 0]) ?_ 0 _ rfl; (with_reducible repeat (first | refine blk_drewN ?_ _ | refine blk_drew ?_ | refine blk_alloc ?_ _)); exact hq0_) : p := h x0.out
theorem Q67 {p q0 : Prop} (x0 : Aside0 q0) (h : q0 → p := by intro hq0_; (with_reducible repeat (first | refine blk_drewN ?_ _ | refine blk_drew ?_ | refine blk_alloc ?_ _)); refine blk_put (cs := #[.int .i64 a1_0, .slice none 0 0]) ?_ 1 _ rfl; (with_reducible repeat (first | refine blk_drewN ?_ _ | refine blk_drew ?_ | refine blk_alloc ?_ _)); refine blk_put (cs := #[.int .i64 0, .slice none 0 0]) ?_ 0 _ rfl; (with_reducible repeat (first | refine blk_drewN ?_ _ | refine blk_drew ?_ | refine blk_alloc ?_ _)); exact hq0_) : p := h x0.out
theorem Q68 {p q0 : Prop} (x0 : Aside0 q0) (h : q0 → p := by intro hq0_; (with_reducible repeat (first | refine blk_drewN ?_ _ | refine blk_drew ?_ | refine blk_alloc ?_ _)); refine blk_put (cs := #[.int .i64 t126, .slice none 0 0]) ?_ 1 _ rfl; (with_reducible repeat (first | refine blk_drewN ?_ _ | refine blk_drew ?_ | refine blk_alloc ?_ _)); refine blk_put (cs := #[.int .i64 0, .slice none 0 0]) ?_ 0 _ rfl; (with_reducible repeat (first | refine blk_drewN ?_ _ | refine blk_drew ?_ | refine blk_alloc ?_ _)); exact hq0_) : p := h x0.out
theorem Q69 {p : Prop} (h : p := by (with_reducible repeat (first | apply Kd.R_alloc | apply Kd.R_drewN | apply Kd.R_drew)); exact HO_32.out) : p := h
theorem Q70 {p : Prop} (h : p := by (with_reducible repeat (first | apply Kd.R_alloc | apply Kd.R_drewN | apply Kd.R_drew)); exact HO_8.out) : p := h
theorem Q71 {p q0 : Prop} (x0 : Aside0 q0) (h : q0 → p := by intro hq0_; (with_reducible repeat (first | apply Kd.R_alloc | apply Kd.R_drewN | apply Kd.R_drew)); exact Kd.R_mono hq0_ (fun _ hk => ⟨hk.2, hk.1.2⟩)) : p := h x0.out
theorem Q72 {p : Prop} (h : p := by have := HJ9.out; have := HJ13.out; have := HK3.out; have := HK4.out; omega) : p := h
theorem Q73 {p : Prop} (h : p := by repeat (first | exact (Kd.R_reads' HO_119001.out).2.2 | (with_reducible refine Kd.C_alloc ?_ _) | (with_reducible refine Kd.C_drewN ?_ _) | (with_reducible refine Kd.C_drew ?_))) : p := h
theorem Q74 {p : Prop} (h : p := by repeat (first | exact (Kd.R_reads' HO_109001.out).2.2 | (with_reducible refine Kd.C_alloc ?_ _) | (with_reducible refine Kd.C_drewN ?_ _) | (with_reducible refine Kd.C_drew ?_))) : p := h
theorem Q75 {p : Prop} (h : p := by repeat (first | exact (Kd.R_reads' HO_111001.out).2.2 | (with_reducible refine Kd.C_alloc ?_ _) | (with_reducible refine Kd.C_drewN ?_ _) | (with_reducible refine Kd.C_drew ?_))) : p := h
theorem Q76 {p q0 q1 q2 q3 : Prop} (x0 : Aside0 q0) (x1 : Aside0 q1) (x2 : Aside0 q2) (x3 : Aside0 q3) (h : q0 → q1 → q2 → q3 → p := by intro hq0_ hq1_ hq2_ hq3_; repeat (first | (with_reducible first | exact hq0_ | apply below_alloc | apply pw_below_drewN | apply below_drew1 | refine below_set ?_ (IsS96.ge hq1_) | refine below_set ?_ hq2_ | refine below_set ?_ hq3_) | exact hq0_)) : p := h x0.out x1.out x2.out x3.out
theorem Q77 {p : Prop} (h : p := by (with_reducible repeat (first | apply Kd.R_alloc | apply Kd.R_drewN | apply Kd.R_drew)); exact HO_106001.out) : p := h
theorem Q78 {p : Prop} (h : p := by (with_reducible repeat (first | apply Kd.R_alloc | apply Kd.R_drewN | apply Kd.R_drew)); exact HO_14.out) : p := h
theorem Q79 {p q0 : Prop} (x0 : Aside0 q0) (h : q0 → p := by intro hq0_; (with_reducible repeat (first | apply Kd.R_alloc | apply Kd.R_drewN | apply Kd.R_drew)); exact Kd.R_mono (Kd.R_far (p := ⟨gb101, 1, none⟩) (Kd.R_far (p := ⟨gb101, 0, none⟩) (Kd.R_types HO_109001.out hq0_ (by decide)) (fun _ hk => hk.2) (.int .i64 t102)) (fun _ hk => hk.2) (.slice Ao11 t103.length co11)) (fun _ hk => trivial)) : p := h x0.out
theorem Q80 {p : Prop} (h : p := by (with_reducible repeat (first | apply Kd.R_alloc | apply Kd.R_drewN | apply Kd.R_drew)); exact HO_9.out) : p := h
theorem Q81 {p q0 : Prop} (x0 : Aside0 q0) (h : q0 → p := by intro hq0_; (with_reducible repeat (first | apply Kd.R_alloc | apply Kd.R_drewN | apply Kd.R_drew)); exact Kd.R_mono (Kd.R_far (p := ⟨gb101, 1, none⟩) (Kd.R_far (p := ⟨gb101, 0, none⟩) (Kd.R_types HO_7.out hq0_ (by decide)) (fun _ hk => hk.2) (.int .i64 t102)) (fun _ hk => hk.2) (.slice Ao11 t103.length co11)) (fun _ hk => trivial)) : p := h x0.out
theorem Q82 {p q0 q1 : Prop} (x0 : Aside0 q0) (x1 : Aside0 q1) (h : q0 → q1 → p := by intro hq0_ hq1_; rw [hw]; exact (by (with_reducible repeat (first | apply Kd.R_alloc | apply Kd.R_drewN | apply Kd.R_drew)); exact Kd.R_mono (Kd.R_far (p := ⟨gb118, 1, none⟩) (Kd.R_far (p := ⟨gb118, 0, none⟩) (Kd.R_types hq0_ hq1_ (by decide)) (fun _ hk => hk.2) (.int .i64 t122)) (fun _ hk => hk.2) (.slice Ao36 t123.length co36)) (fun _ hk => hk.1.2))) : p := h x0.out x1.out
theorem Q83 {p q0 q1 : Prop} (x0 : Aside0 q0) (x1 : Aside0 q1) (h : q0 → q1 → p := by intro hq0_ hq1_; rw [hw]; exact (by (with_reducible repeat (first | apply Kd.R_alloc | apply Kd.R_drewN | apply Kd.R_drew)); exact Kd.R_mono (Kd.R_far (p := ⟨gb118, 1, none⟩) (Kd.R_far (p := ⟨gb118, 0, none⟩) (Kd.R_types hq0_ hq1_ (by decide)) (fun _ hk => hk.2) (.int .i64 t132)) (fun _ hk => hk.2) (.slice Ao51 t133.length co51)) (fun _ hk => hk.1.2))) : p := h x0.out x1.out
theorem Q84 {p q0 q1 : Prop} (x0 : Aside0 q0) (x1 : Aside0 q1) (h : q0 → q1 → p := by intro hq0_ hq1_; rw [hw]; exact (by (with_reducible repeat (first | apply Kd.R_alloc | apply Kd.R_drewN | apply Kd.R_drew)); exact Kd.R_mono (Kd.R_far (p := ⟨gb118, 1, none⟩) (Kd.R_far (p := ⟨gb118, 0, none⟩) (Kd.R_types hq0_ hq1_ (by decide)) (fun _ hk => hk.2) (.int .i64 t148)) (fun _ hk => hk.2) (.slice Ao73 t149.length co73)) (fun _ hk => hk.1.2))) : p := h x0.out x1.out
theorem Q85 {p q0 : Prop} (x0 : Aside0 q0) (h : q0 → p := by intro hq0_; first | exact Kd.own_blk (Kd.R_ne HO_7.out hq0_ (by decide)) | (rw [add_block]; exact Kd.own_blk (Kd.R_ne HO_7.out hq0_ (by decide))) | (show (Addr.add _ _).block ≠ _; rw [add_block]; exact Kd.own_blk (Kd.R_ne HO_7.out hq0_ (by decide))) | (dsimp only; exact Kd.own_blk (Kd.R_ne HO_7.out hq0_ (by decide)))) : p := h x0.out
theorem Q86 {p q0 q1 : Prop} (x0 : Aside0 q0) (x1 : Aside0 q1) (h : q0 → q1 → p := by intro hq0_ hq1_; (with_reducible repeat (first | apply Kd.R_alloc | apply Kd.R_drewN | apply Kd.R_drew)); exact (Kd.R_mono (Kd.R_far (p := ⟨gb108, 1, none⟩) (Kd.R_far (p := ⟨gb108, 0, none⟩) (Kd.R_types hq0_ hq1_ (by decide)) (fun _ hk => hk.2) (.int .i64 t102)) (fun _ hk => hk.2) (.slice Ao11 t103.length co11)) (fun _ h_ => h_.1))) : p := h x0.out x1.out
theorem Q87 {p q0 : Prop} (x0 : Aside0 q0) (h : q0 → p := by intro hq0_; repeat (first | exact hq0_ | (with_reducible refine Kd.C_alloc ?_ _) | (with_reducible refine Kd.C_drewN ?_ _) | (with_reducible refine Kd.C_drew ?_))) : p := h x0.out
theorem Q88 {p q0 q1 : Prop} (x0 : Aside0 q0) (x1 : Aside0 q1) (h : q0 → q1 → p := by intro hq0_ hq1_; (with_reducible repeat (first | apply Kd.R_alloc | apply Kd.R_drewN | apply Kd.R_drew)); exact Kd.R_mono (Kd.R_far (p := ⟨gb105, 1, none⟩) (Kd.R_far (p := ⟨gb105, 0, none⟩) (Kd.R_types hq0_ hq1_ (by decide)) (fun _ hk => hk.2) (.int .i64 a0)) (fun _ hk => hk.2) (.slice Ao5 y102.length co5)) (fun _ hk => trivial)) : p := h x0.out x1.out
theorem Q89 {p q0 q1 : Prop} (x0 : Aside0 q0) (x1 : Aside0 q1) (h : q0 → q1 → p := by intro hq0_ hq1_; (with_reducible repeat (first | apply Kd.R_alloc | apply Kd.R_drewN | apply Kd.R_drew)); exact Kd.R_mono (Kd.R_far (p := ⟨gb102, 1, none⟩) (Kd.R_far (p := ⟨gb102, 0, none⟩) (Kd.R_types hq0_ hq1_ (by decide)) (fun _ hk => hk.2) (.int .i64 a1_0)) (fun _ hk => hk.2) (.slice Ao5 l1_1.length co5)) (fun _ hk => hk.1)) : p := h x0.out x1.out
theorem Q90 {p : Prop} (h : p := by rw [hg]; exact Nat.ne_of_lt (blk_lt (g := gb101) (o := .cells #[.int .i64 a0_0, .slice A0_1 l0_1.length c0_1] 30 (0, 0)) (Q1 BK101))) : p := h
theorem Q91 {p : Prop} (h : p := by rw [hg]; exact Nat.ne_of_gt (blk_lt (g := gb101) (o := .cells #[.int .i64 a0_0, .slice A0_1 l0_1.length c0_1] 30 (0, 0)) (Q1 BK101))) : p := h
theorem Q92 {p q0 : Prop} (x0 : Aside0 q0) (h : q0 → p := by intro hq0_; (with_reducible repeat (first | refine blk_drewN ?_ _ | refine blk_drew ?_ | refine blk_alloc ?_ _)); refine blk_put (cs := #[.int .i64 a0, u106001]) ?_ 1 _ rfl; (with_reducible repeat (first | refine blk_drewN ?_ _ | refine blk_drew ?_ | refine blk_alloc ?_ _)); exact hq0_) : p := h x0.out
theorem Q93 {p : Prop} (h : p := by have := HK1.out; have := HK2.out; omega) : p := h
theorem Q94 {p : Prop} (h : p := by (with_reducible repeat (first | apply Kd.R_alloc | apply Kd.R_drewN | apply Kd.R_drew)); exact HO_3.out) : p := h
theorem Q95 {p q0 q1 : Prop} (x0 : Aside0 q0) (x1 : Aside0 q1) (h : q0 → q1 → p := by intro hq0_ hq1_; (with_reducible repeat (first | apply Kd.R_alloc | apply Kd.R_drewN | apply Kd.R_drew)); exact Kd.R_mono (Kd.R_far (p := ⟨gb109, 0, none⟩) (Kd.R_types hq0_ hq1_ (by decide)) (fun _ hk => hk.2) (.slice Ao18 t106.length co18)) (fun _ hk => hk.1.2)) : p := h x0.out x1.out
theorem Q96 {p q0 q1 : Prop} (x0 : Aside0 q0) (x1 : Aside0 q1) (h : q0 → q1 → p := by intro hq0_ hq1_; first | (rw [add_block]; exact Kd.own_blk (IsS96.own_ne hq0_ hq1_ (by decide))) | (show (Addr.add _ _).block ≠ _; rw [add_block]; exact Kd.own_blk (IsS96.own_ne hq0_ hq1_ (by decide))) | exact Kd.own_blk (IsS96.own_ne hq0_ hq1_ (by decide))) : p := h x0.out x1.out
theorem Q97 {p : Prop} (h : p := by have := HJ48.out; have := HJ95.out; have := HK3.out; have := HJ109.out; have := HK5.out; omega) : p := h
theorem Q98 {p q0 : Prop} (x0 : Aside0 q0) (h : q0 → p := by intro hq0_; first | exact hq0_.1 | exact (show Kept w _ (fun k_ => (P1_1_ k_) ∨ k_ = g) from Q19 HK GW101 GW102).1) : p := h x0.out
theorem Q99 {p : Prop} (h : p := by first | rfl | (simp [errW_none, errW_some] <;> rfl) | (simp only [← hji3]; first | rfl | (simp [errW_none, errW_some] <;> rfl)) | (simp [*, errW_none, errW_some] <;> rfl)) : p := h
theorem Q100 {p : Prop} (h : p := by repeat (first | exact (Kd.R_reads' HO_5.out).2.2 | (with_reducible refine Kd.C_alloc ?_ _) | (with_reducible refine Kd.C_drewN ?_ _) | (with_reducible refine Kd.C_drew ?_))) : p := h
theorem Q101 {p q0 q1 : Prop} (x0 : Aside0 q0) (x1 : Aside0 q1) (h : q0 → q1 → p := by intro hq0_ hq1_; repeat (first | (with_reducible first | exact hq0_ | apply Kept.alloc | apply Kept.drewN | apply Kept.drew | refine Kept.setCell ?_ (.inl (.inr rfl)) _ | refine Kept.setCell ?_ (.inr hq1_) _) | exact hq0_)) : p := h x0.out x1.out
end Go.Proofs.Ytcjddikalgnhpaa.P
namespace Go.Proofs.Ytcjddikalgnhpaa.P
open Go.RowKit Go.Proofs.YtcjddikalgnhpaaW.PrintWords Go.Proofs.YtcjddikalgnhpaaW.PrintLast Go.Proofs.YtcjddikalgnhpaaW.PrintMore
attribute [local go_sem] max2_int min2_int max_two min_two max_three min_three max_four min_four   -- for this text's walks alone
set_option linter.unusedVariables false
set_option linter.unusedSimpArgs false
/-! ### impl_within: function 107 -/
def impl_within.f (a0 : Int) (a1 : Int) (a2 : Int) : Option (Bool) := if a0 ≥ a1 then (some (decide (a0 ≤ a2))) else (some false)
set_option maxHeartbeats 8000000 in
set_option maxRecDepth 100000 in
theorem impl_within.calls (a0 : Int) (a1 : Int) (a2 : Int) (r : Bool) (w : World) (h : impl_within.f a0 a1 a2 = some r) :
  Calls Try.prog 107 #[.int .i64 a0, .int .i64 a1, .int .i64 a2] w fun e w' => e = .returned (.bool r) ∧ Drawn0 w w' := by
 have H : (if a0 ≥ a1 then (some (decide (a0 ≤ a2))) else (some false)) = some r := h
 clear h
 by_cases c4 : a0 ≥ a1
 ·rw [if_pos c4] at H
  have c4b0 : decide (a1 ≤ a0) = true := decide_eq_true c4; clear c4; obtain rfl := Option.some.inj H
  go_enter Try.func107, Try.ntmps107
  go_wp2
  go_ret
  exact ⟨Q13, Q20⟩
 ·rw [if_neg c4] at H
  have c4b0 : decide (a1 ≤ a0) = false := decide_eq_false c4; clear c4; obtain rfl := Option.some.inj H
  go_enter Try.func107, Try.ntmps107
  go_wp2
  go_ret
  exact ⟨Q13, Q20⟩
/-! ### cmp_isNaN_int: function 219 -/
def cmp_isNaN_int.f (a0 : Int) : Option (Bool) := some (a0 != a0)
set_option maxHeartbeats 8000000 in
set_option maxRecDepth 100000 in
theorem cmp_isNaN_int.calls (a0 : Int) (r : Bool) (w : World) (h : cmp_isNaN_int.f a0 = some r) :
  Calls Try.prog 219 #[.int .i64 a0] w fun e w' => e = .returned (.bool r) ∧ Drawn0 w w' := by
 have H : (some (a0 != a0)) = some r := h
 clear h
 obtain rfl := Option.some.inj H
 go_enter Try.func219, Try.ntmps219
 go_wp2
 go_ret
 exact ⟨Q13, Q20⟩
/-! ### cmp_Compare_int: function 203 -/
def cmp_Compare_int.f (a0 : Int) (a1 : Int) : Option (Int) := (cmp_isNaN_int.f a0).bind fun t101 => ((cmp_isNaN_int.f a1).bind fun t102 => (if t101 = true then (if t102 = true then (some 0) else (some (-1))) else (if t102 = true then (some 1) else (if a0 < a1 then (some (-1)) else (if a0 > a1 then (some 1) else (some 0))))))
set_option maxHeartbeats 8000000 in
set_option maxRecDepth 100000 in
theorem cmp_Compare_int.calls (a0 : Int) (a1 : Int) (r : Int) (w : World) (h : cmp_Compare_int.f a0 a1 = some r) :
  Calls Try.prog 203 #[.int .i64 a0, .int .i64 a1] w fun e w' => e = .returned (.int .i64 r) ∧ Drawn0 w w' := by
 have H : ((cmp_isNaN_int.f a0).bind fun t101 => ((cmp_isNaN_int.f a1).bind fun t102 => (if t101 = true then (if t102 = true then (some 0) else (some (-1))) else (if t102 = true then (some 1) else (if a0 < a1 then (some (-1)) else (if a0 > a1 then (some 1) else (some 0))))))) = some r := h
 clear h
 replace H := (ob H)
 obtain ⟨t101, A30, H⟩ := H
 (try dsimp only at H)
 have A3 := Aside0.mk A30
 clear A30
 replace H := (ob H)
 obtain ⟨t102, A40, H⟩ := H
 (try dsimp only at H)
 have A4 := Aside0.mk A40
 clear A40
 have HU5 := Aside0.mk H
 clear H
 go_enter Try.func203, Try.ntmps203
 go_upto_if 11 with (first | ((with_reducible refine gate_callee (f := 219) rfl ?_); refine goesL_ (some 8) rfl rfl Try.func219 (by kernel_rfl) rfl #[.int .i64 a0] rfl Q3 ?_; (with_reducible refine (cmp_isNaN_int.calls a0 t101 _ A3.out).mono ?_); rintro e w' ⟨rfl, ⟨nd, rfl⟩⟩; refine ⟨_, rfl, ?_⟩) | ((with_reducible refine gate_callee (f := 219) rfl ?_); refine goesL_ (some 10) rfl rfl Try.func219 (by kernel_rfl) rfl #[.int .i64 a1] rfl Q3 ?_; (with_reducible refine (cmp_isNaN_int.calls a1 t102 _ A4.out).mono ?_); rintro e w' ⟨rfl, ⟨nd, rfl⟩⟩; refine ⟨_, rfl, ?_⟩))
 (try simp only [Act.put, List.setIfInBounds_toArray, List.set_cons_zero, List.set_cons_succ])
 have H := HU5.out
 clear HU5
 by_cases c6 : t101 = true
 ·subst c6
  have H1 : (if t102 = true then (some 0) else (some (-1))) = some r := by rw [if_pos rfl] at H; exact H
  clear H; have H := H1; clear H1
  by_cases c7 : t102 = true
  ·subst c7
   have H1 : (some 0) = some r := by rw [if_pos rfl] at H; exact H
   clear H; have H := H1; clear H1; obtain rfl := Option.some.inj H
   go_wp2
   go_ret
   exact ⟨Q13, Q20⟩
  ·replace c7 := Bool.eq_false_iff.mpr c7
   subst c7; have H1 : (some (-1)) = some r := by rw [if_neg (show ¬ (false = true) by decide)] at H; exact H
   clear H; have H := H1; clear H1; obtain rfl := Option.some.inj H
   go_wp2
   go_ret
   exact ⟨Q13, Q20⟩
 ·replace c6 := Bool.eq_false_iff.mpr c6
  subst c6; have H1 : (if t102 = true then (some 1) else (if a0 < a1 then (some (-1)) else (if a0 > a1 then (some 1) else (some 0)))) = some r := by rw [if_neg (show ¬ (false = true) by decide)] at H; exact H
  clear H; have H := H1; clear H1
  by_cases c8 : t102 = true
  ·subst c8
   have H1 : (some 1) = some r := by rw [if_pos rfl] at H; exact H
   clear H; have H := H1; clear H1; obtain rfl := Option.some.inj H
   go_wp2
   go_ret
   exact ⟨Q13, Q20⟩
  ·replace c8 := Bool.eq_false_iff.mpr c8
   subst c8; have H1 : (if a0 < a1 then (some (-1)) else (if a0 > a1 then (some 1) else (some 0))) = some r := by rw [if_neg (show ¬ (false = true) by decide)] at H; exact H
   clear H; have H := H1; clear H1
   by_cases c9 : a0 < a1
   ·rw [if_pos c9] at H
    have c9b0 : decide (a0 < a1) = true := decide_eq_true c9; clear c9
    (first | rw [c9b0] | (simp only [i64_w, i32_w]; rw [c9b0]) | skip)
    obtain rfl := Option.some.inj H
    go_wp2
    go_ret
    exact ⟨Q13, Q20⟩
   ·rw [if_neg c9] at H
    have c9b0 : decide (a0 < a1) = false := decide_eq_false c9; clear c9
    (first | rw [c9b0] | (simp only [i64_w, i32_w]; rw [c9b0]) | skip)
    by_cases c10 : a0 > a1
    ·rw [if_pos c10] at H
     have c10b0 : decide (a1 < a0) = true := decide_eq_true c10; clear c10; obtain rfl := Option.some.inj H
     go_wp2
     go_ret
     exact ⟨Q13, Q20⟩
    ·rw [if_neg c10] at H
     have c10b0 : decide (a1 < a0) = false := decide_eq_false c10; clear c10; obtain rfl := Option.some.inj H
     go_wp2
     go_ret
     exact ⟨Q13, Q20⟩
/-! ### slices_Compare_int_int: function 158 -/
def slices_Compare_int_int.l0 : Nat → List Int → List Int → List Int → Int → Int → Option (Int)
 | 0, _, _, _, _, _ => none
 | k + 1, x0, x1, x9, x10, x11 => if x11 < x10 then (if 0 ≤ x11 then (if x11 < (x9.length : Int) then (if x11 ≥ (x1.length : Int) then (some 1) else (if x11 < (x1.length : Int) then ((cmp_Compare_int.f (rd x9 x11) (rd x1 x11)).bind fun t103 => (if t103 = 0 then (slices_Compare_int_int.l0 k x0 x1 x9 x10 (wrap64 (x11 + 1))) else (some t103))) else (none))) else (none)) else (none)) else (if (x0.length : Int) < (x1.length : Int) then (some (-1)) else (some 0))
def slices_Compare_int_int.f (k : Nat) (l0 : List Int) (l1 : List Int) : Option (Int) := slices_Compare_int_int.l0 k l0 l1 l0 (l0.length : Int) 0
theorem slices_Compare_int_int.mono_l : ∀ k, (∀ y0 y1 y2 y3 y4, LeO (slices_Compare_int_int.l0 k y0 y1 y2 y3 y4) (slices_Compare_int_int.l0 (k + 1) y0 y1 y2 y3 y4))
 | 0 => fun _ _ _ _ _ r h => by simp [slices_Compare_int_int.l0] at h
 | k + 1 => by
  have ih0 := slices_Compare_int_int.mono_l k
  all_goals
   intros
   first | unfold slices_Compare_int_int.l0
   repeat' first | (with_reducible first | exact ih0 _ _ _ _ _ | exact LeO.refl _ | exact LeO.none _ | refine LeO.ite ?_ ?_ | refine LeO.bind ?_ (fun _ => ?_))
theorem slices_Compare_int_int.mono : ∀ a0 a1 k, LeO (slices_Compare_int_int.f k a0 a1) (slices_Compare_int_int.f (k + 1) a0 a1) := by
 intro a0 a1 k
 have ih0 := slices_Compare_int_int.mono_l k
 unfold slices_Compare_int_int.f
 repeat' first | (with_reducible first | exact ih0 _ _ _ _ _ | exact LeO.refl _ | exact LeO.none _ | refine LeO.ite ?_ ?_ | refine LeO.bind ?_ (fun _ => ?_))
set_option maxHeartbeats 8000000 in
set_option maxRecDepth 100000 in
theorem slices_Compare_int_int.calls (k : Nat) (A0 : Option Addr) (c0 : Nat) (l0 : List Int) (A1 : Option Addr) (c1 : Nat) (l1 : List Int) (r : Int) (w : World) (hr0 : Kd.C (Kd.int .i64) w A0 l0.length l0) (hc0 : l0.length ≤ c0) (hr1 : Kd.C (Kd.int .i64) w A1 l1.length l1) (hc1 : l1.length ≤ c1) (h : slices_Compare_int_int.f k l0 l1 = some r) :
  Calls Try.prog 158 #[.slice A0 l0.length c0, .slice A1 l1.length c1] w fun e w' => e = .returned (.int .i64 r) ∧ Drawn0 w w' := by
 have HR0 := Aside0.mk hr0
 have HC0 := Aside0.mk hc0
 clear hr0 hc0
 have HR1 := Aside0.mk hr1
 have HC1 := Aside0.mk hc1
 clear hr1 hc1
 have H : (slices_Compare_int_int.l0 k l0 l1 l0 (l0.length : Int) 0) = some r := h
 clear h
 have H' := Aside0.mk H
 clear H
 go_enter Try.func158, Try.ntmps158
 go_wp2
 go_loopg [11] k (fun kq v11 w' => ∃ (x11_1 : Int), v11 = .int .i64 x11_1 ∧ Aside0 (slices_Compare_int_int.l0 kq l0 l1 l0 (l0.length : Int) x11_1 = some r) ∧ Aside0 (kq ≤ k) ∧ Drawn0 w w')
 case atStart => exact ⟨(0), Q13, H', ⟨Nat.le_refl _⟩, Q20⟩
 case round =>
  clear H'
  try clear c1
  try clear p2
  obtain ⟨x11_1, rfl, HA, HK1, ⟨m1, rfl⟩⟩ := hrel
  cases gk with
  | zero => exact absurd HA.out (by simp [slices_Compare_int_int.l0])
  | succ k1 =>
   have H := HA.out; clear HA
   simp only [slices_Compare_int_int.l0] at H
   by_cases c3 : x11_1 < (l0.length : Int)
   ·rw [if_pos c3] at H
    have c3b0 : decide (x11_1 < (l0.length : Int)) = true := decide_eq_true c3; clear c3
    by_cases c4 : 0 ≤ x11_1
    ·rw [if_pos c4] at H
     have c4b0 : decide (0 ≤ x11_1) = true := decide_eq_true c4; clear c4
     by_cases c5 : x11_1 < (l0.length : Int)
     ·rw [if_pos c5] at H
      have c5b0 : decide (x11_1 < (l0.length : Int)) = true := decide_eq_true c5; clear c5; have HU6 := Aside0.mk H; clear H; have p101 : 0 ≤ (x11_1 : Int) := of_decide_eq_true Q10; have q101 : x11_1 < (l0.length : Int) := of_decide_eq_true Q10; obtain ⟨ad101, e101, hx101_0⟩ := Kd.at_int HR0.out x11_1 p101 q101
      cases e101
      replace p101 := eq_true p101; replace q101 := eq_true q101
      go_upto_if 19 with (fail)
      have H := HU6.out; clear HU6
      by_cases c7 : x11_1 ≥ (l1.length : Int)
      ·rw [if_pos c7] at H
       have c7b0 : decide ((l1.length : Int) ≤ x11_1) = true := decide_eq_true c7; clear c7
       (first | rw [c7b0] | (simp only [i64_w, i32_w]; rw [c7b0]) | skip)
       obtain rfl := Option.some.inj H
       go_wp2
       go_ret
       exact ⟨Q13, Q20⟩
      ·rw [if_neg c7] at H
       have c7b0 : decide ((l1.length : Int) ≤ x11_1) = false := decide_eq_false c7; clear c7
       (first | rw [c7b0] | (simp only [i64_w, i32_w]; rw [c7b0]) | skip)
       by_cases c8 : x11_1 < (l1.length : Int)
       ·rw [if_pos c8] at H
        have c8b0 : decide (x11_1 < (l1.length : Int)) = true := decide_eq_true c8; clear c8; replace H := (ob H); obtain ⟨t103, A90, H⟩ := H; (try dsimp only at H); have A9 := Aside0.mk A90; clear A90; have HU10 := Aside0.mk H; clear H; have p102 : 0 ≤ (x11_1 : Int) := of_decide_eq_true Q10; have q102 : x11_1 < (l1.length : Int) := of_decide_eq_true Q10; obtain ⟨ad102, e102, hx102_0⟩ := Kd.at_int HR1.out x11_1 p102 q102
        cases e102
        replace p102 := eq_true p102; replace q102 := eq_true q102
        go_upto_if 28 with (first | ((with_reducible refine gate_callee (f := 203) rfl ?_); refine goesL_ (some 26) rfl rfl Try.func203 (by kernel_rfl) rfl #[.int .i64 (rd l0 x11_1), .int .i64 (rd l1 x11_1)] rfl Q3 ?_; (with_reducible refine (cmp_Compare_int.calls (rd l0 x11_1) (rd l1 x11_1) t103 _ A9.out).mono ?_); rintro e w' ⟨rfl, ⟨nd, rfl⟩⟩; refine ⟨_, rfl, ?_⟩))
        (try simp only [Act.put, List.setIfInBounds_toArray, List.set_cons_zero, List.set_cons_succ]); have H := HU10.out; clear HU10
        by_cases c11 : t103 = 0
        ·rw [if_pos c11] at H
         have c11b0 := beq_iff_eq.mpr c11; have c11b1 := bne_eq_false_iff_eq.mpr c11; clear c11
         (first | rw [c11b0] | (simp only [i64_w, i32_w]; rw [c11b0]) | rw [c11b1] | skip)
         have H' := Aside0.mk H; clear H
         go_wp2
         go_roundg k1
         case measure => have := HK1.out; omega
         case rel => exact ⟨(wrap64 (x11_1 + 1)), Q13, H', ⟨Q44⟩, Q20⟩
        ·rw [if_neg c11] at H
         have c11b0 := beq_eq_false_iff_ne.mpr c11; have c11b1 := bne_iff_ne.mpr c11
         (first | rw [c11b0] | (simp only [i64_w, i32_w]; rw [c11b0]) | rw [c11b1] | skip)
         obtain rfl := Option.some.inj H
         go_wp2
         go_ret
         exact ⟨Q13, Q20⟩
       ·rw [if_neg c8] at H
        exact absurd H (by simp)
     ·rw [if_neg c5] at H
      exact absurd H (by simp)
    ·rw [if_neg c4] at H
     exact absurd H (by simp)
   ·rw [if_neg c3] at H
    have c3b0 : decide (x11_1 < (l0.length : Int)) = false := decide_eq_false c3; clear c3
    by_cases c12 : (l0.length : Int) < (l1.length : Int)
    ·rw [if_pos c12] at H
     have c12b0 := decide_eq_true c12; have c12b1 : decide (l0.length < l1.length) = true := decide_eq_true (Int.ofNat_lt.mp c12); clear c12; obtain rfl := Option.some.inj H
     go_wp2
     go_ret
     exact ⟨Q13, Q20⟩
    ·rw [if_neg c12] at H
     have c12b0 := decide_eq_false c12; have c12b1 : decide (l0.length < l1.length) = false := decide_eq_false (fun h => c12 (Int.ofNat_lt.mpr h)); clear c12; obtain rfl := Option.some.inj H
     go_wp2
     go_ret
     exact ⟨Q13, Q20⟩
/-! ### impl_IsGraph: function 71 -/
/-- How two pairs compare, by their first numbers and then by their second ones. -/
def pcmp (a b : S71) : Int := if a.f0 < b.f0 then -1 else if a.f0 > b.f0 then 1 else if a.f1 < b.f1 then -1 else if a.f1 > b.f1 then 1 else 0
theorem cmp_int (a b : Int) : cmp_Compare_int.f a b = some (if a < b then -1 else if a > b then 1 else 0) := by
 unfold cmp_Compare_int.f cmp_isNaN_int.f
 simp only [bne_self_eq_false, Option.bind_some, Bool.false_eq_true, if_false]
 split
 ·rfl
 ·split <;> rfl
theorem pcmp_f (a b : S71) : slices_Compare_int_int.f 4 [a.f0, a.f1] [b.f0, b.f1] = some (pcmp a b) := by
 have h1 : wrap64 (0 + 1) = 1 := by unfold wrap64; omega
 have h2 : wrap64 (1 + 1) = 2 := by unfold wrap64; omega
 unfold slices_Compare_int_int.f pcmp
 simp only [slices_Compare_int_int.l0, cmp_int, Option.bind_some, List.length_cons, List.length_nil, rd, h1, h2]
 by_cases c1 : a.f0 < b.f0
 ·simp [c1]
 ·by_cases c2 : a.f0 > b.f0
  ·simp [c1, c2]
  ·by_cases c3 : a.f1 < b.f1
   ·simp [c1, c2, c3]
   ·by_cases c4 : a.f1 > b.f1
    ·simp [c1, c2, c3, c4]
    ·simp [c1, c2, c3, c4]
theorem pair_reads {w : World} {ad : Addr} {x y : Int} (h0 : w.cell? ad = some (.int .i64 x)) (h1 : w.cell? ⟨ad.block, ad.off + 1, none⟩ = some (.int .i64 y)) : Kd.C (Kd.int .i64) w (some ad) [x, y].length [x, y] := by
 refine ⟨rfl, by simp, fun _ => ⟨ad, rfl, fun j p hj => ?_⟩⟩
 match j, hj with
 | 0, hj =>
  obtain rfl : x = p := by simpa using hj
  refine ⟨[.int .i64 x], rfl, rfl, fun i u hi => ?_⟩
  match i, hi with
  | 0, hi =>
   obtain rfl : Value.int .i64 x = u := by simpa using hi
   exact h0
 | 1, hj =>
  obtain rfl : y = p := by simpa using hj
  refine ⟨[.int .i64 y], rfl, rfl, fun i u hi => ?_⟩
  match i, hi with
  | 0, hi =>
   obtain rfl : Value.int .i64 y = u := by simpa using hi
   exact h1
theorem pcmp_calls (adA adB : Addr) (a b : S71) (w : World) (hA0 : w.cell? adA = some (.int .i64 a.f0)) (hA1 : w.cell? ⟨adA.block, adA.off + 1, none⟩ = some (.int .i64 a.f1))
  (hB0 : w.cell? adB = some (.int .i64 b.f0)) (hB1 : w.cell? ⟨adB.block, adB.off + 1, none⟩ = some (.int .i64 b.f1)) :
  Calls Try.prog 158 #[.slice (some adA) 2 2, .slice (some adB) 2 2] w fun e w' => e = .returned (.int .i64 (pcmp a b)) ∧ Drawn0 w w' :=
 slices_Compare_int_int.calls 4 (some adA) 2 [a.f0, a.f1] (some adB) 2 [b.f0, b.f1] (pcmp a b) w (pair_reads hA0 hA1) (Nat.le_refl _) (pair_reads hB0 hB1) (Nat.le_refl _) (pcmp_f a b)
theorem pcmp_quiet (adA adB : Addr) (a b : S71) (w : World) (n : Nat) (hA0 : w.cell? adA = some (.int .i64 a.f0)) (hA1 : w.cell? ⟨adA.block, adA.off + 1, none⟩ = some (.int .i64 a.f1))
  (hB0 : w.cell? adB = some (.int .i64 b.f0)) (hB1 : w.cell? ⟨adB.block, adB.off + 1, none⟩ = some (.int .i64 b.f1)) :
  Calls Try.prog 158 #[.slice (some adA) 2 2, .slice (some adB) 2 2] (w.drewN n) fun e w'' => e = .returned (.int .i64 (pcmp a b)) ∧ ∃ m, w'' = w.drewN m :=
 Calls.quiet_of ((pcmp_calls adA adB a b (w.drewN n) hA0 hA1 hB0 hB1).mono (fun _ _ h => And.imp id Drawn0.out h))
def impl_IsGraph.l0 : Nat → List (S71) → Int → Int → Option Bool
 | 0, _, _, _ => none
 | k + 1, l, s, i => if i < (l.length : Int) then (if 0 ≤ i then (if (rd_T71 l i).f0 < 0 then some false else if (rd_T71 l i).f0 ≥ (rd_T71 l i).f1 then some false else if (rd_T71 l i).f1 ≥ s then some false else if i > 0 then (if 0 ≤ pcmp (rd_T71 l (wrap64 (i - 1))) (rd_T71 l i) then some false else impl_IsGraph.l0 k l s (wrap64 (i + 1))) else impl_IsGraph.l0 k l s (wrap64 (i + 1))) else none) else some true
def impl_IsGraph.f (k : Nat) (a0_0 : Int) (l0_1 : List (S71)) : Option Bool := if 0 ≤ a0_0 ∧ a0_0 ≤ 8 then impl_IsGraph.l0 k l0_1 a0_0 0 else some false
theorem impl_IsGraph.mono_l : ∀ k l s i, LeO (impl_IsGraph.l0 k l s i) (impl_IsGraph.l0 (k + 1) l s i)
 | 0, _, _, _ => fun r h => by simp [impl_IsGraph.l0] at h
 | k + 1, l, s, i => by
  have ih := impl_IsGraph.mono_l k
  unfold impl_IsGraph.l0
  exact LeO.ite (LeO.ite (LeO.ite (LeO.refl _) (LeO.ite (LeO.refl _) (LeO.ite (LeO.refl _) (LeO.ite (LeO.ite (LeO.refl _) (ih _ _ _)) (ih _ _ _))))) (LeO.refl _)) (LeO.refl _)
theorem impl_IsGraph.mono : ∀ a0 a1 k, LeO (impl_IsGraph.f k a0 a1) (impl_IsGraph.f (k + 1) a0 a1) := by
 intro a0 a1 k
 unfold impl_IsGraph.f
 exact LeO.ite (impl_IsGraph.mono_l _ _ _ _) (LeO.refl _)
set_option maxHeartbeats 8000000 in
set_option maxRecDepth 100000 in
theorem impl_IsGraph.calls (k : Nat) (a0_0 : Int) (A0_1 : Option Addr) (c0_1 : Nat) (l0_1 : List (S71)) (r : Bool) (w : World) (hr0_1 : Kd.C k71 w A0_1 l0_1.length l0_1) (hc0_1 : l0_1.length ≤ c0_1) (h : impl_IsGraph.f k a0_0 l0_1 = some r) :
  Calls Try.prog 71 #[.agg #[.int .i64 a0_0, .slice A0_1 l0_1.length c0_1]] w fun e w' => e = .returned (.bool r) ∧ Below w.heap.size w w' := by
 have hu29 := Try.underlying30
 have hu57 := Try.underlying71
 have HR0_1 := Aside0.mk hr0_1
 have HC0_1 := Aside0.mk hc0_1
 clear hr0_1 hc0_1
 have HB := am (Below.refl w.heap.size w)
 unfold impl_IsGraph.f at h
 by_cases c3 : 0 ≤ a0_0 ∧ a0_0 ≤ 8
 ·rw [if_pos c3] at h
  have A2 := am (show impl_within.f a0_0 0 8 = some true by unfold impl_within.f; rw [if_pos c3.1]; simp [c3.2]); clear c3; have H' := Aside0.mk h; clear h
  go_enter Try.func71, Try.ntmps71
  go_wp2_with (first | ((with_reducible refine gate_dst (N := 1) rfl ?_); refine box_event ?hg (N := 1) ?hd (cs := #[.int .i64 a0_0, .slice A0_1 l0_1.length c0_1]) (t := 30) ?hr ?_; (case hd => rfl); (case hg => rfl); (case hr => first | (go_simp; done) | (go_simp; rfl)); intro gb141 hg w4 hbox hb; replace HB := am (below_step HB.out hb); have BK141 := am (hbox); have GE141 := am ((by rw [hg]; exact Nat.le_refl _) : w.heap.size ≤ gb141); clear hb hbox hg; have hcz5_0 : w4.cell? ⟨gb141, 0, none⟩ = some (.int .i64 a0_0) := (blk_cell BK141.out 0).trans rfl; have hcz5_1 : w4.cell? ⟨gb141, 1, none⟩ = some (.slice A0_1 l0_1.length c0_1) := (blk_cell BK141.out 1).trans rfl; have hfz5_0 := blk_frozen BK141.out 0; have hfz5_1 := blk_frozen BK141.out 1) | ((with_reducible refine gate_callee (f := 107) rfl ?_); refine goesL_ (some 7) rfl rfl Try.func107 (by kernel_rfl) rfl #[.int .i64 a0_0, .int .i64 0, .int .i64 8] rfl Q53 ?_; (with_reducible refine (impl_within.calls a0_0 0 8 true _ A2.out).mono ?_); rintro e w' ⟨rfl, ⟨nd, rfl⟩⟩; refine ⟨_, rfl, ?_⟩))
  go_loopg [12] k (fun kq v12 w' => ∃ (i : Int), v12 = .int .i64 i ∧ Aside0 (impl_IsGraph.l0 kq l0_1 a0_0 i = some r) ∧ Aside0 (kq ≤ k) ∧ Aside0 (w'.heap[gb141]? = some (.cells #[.int .i64 a0_0, .slice A0_1 l0_1.length c0_1] 30 (0, 0))) ∧ Aside0 (Below w.heap.size w w'))
  case atStart => exact ⟨0, Q13, H', ⟨Nat.le_refl _⟩, ⟨Q1 BK141⟩, ⟨Q16 HB GE141⟩⟩
  case round =>
   clear H'
   try clear hcz5_0
   try clear hcz5_1
   try clear hfz5_0
   try clear hfz5_1
   obtain ⟨i, rfl, HA, HK1, BK141, HB⟩ := hrel
   cases gk with
   | zero => exact absurd HA.out (by simp [impl_IsGraph.l0])
   | succ k1 =>
    have H := HA.out; clear HA
    simp only [impl_IsGraph.l0] at H
    by_cases c6 : i < (l0_1.length : Int)
    ·rw [if_pos c6] at H
     have c6b0 : decide (i < (l0_1.length : Int)) = true := decide_eq_true c6
     by_cases c7 : 0 ≤ i
     ·rw [if_pos c7] at H
      have c7b0 : decide (0 ≤ i) = true := decide_eq_true c7; obtain ⟨ad143, e143, hx143_0, hx143_1⟩ := at_T71 HR0_1.out i c7 c6
      cases e143
      replace hx143_0 := (HB.out.cell (World.block_lt_of_cell? w _ hx143_0)).trans hx143_0; replace hx143_1 := (HB.out.cell (World.block_lt_of_cell? w _ hx143_1)).trans hx143_1; have C6 := Aside0.mk c6; have C7 := Aside0.mk c7; replace c7 := eq_true c7; replace c6 := eq_true c6; have H' := Aside0.mk H; clear H
      go_upto_region 6 with (first | ((with_reducible refine gate_dst (N := 4) rfl ?_); refine box_event ?hg (N := 4) ?hd (cs := #[.int .i64 0, .int .i64 0]) (t := 71) ?hr ?_; (case hd => rfl); (case hg => rfl); (case hr => first | (go_simp; done) | (go_simp; rfl)); intro gb144 hg w10 hbox hb; have BK144 := am (hbox); have GE144 := am ((by rw [hg]; exact below_size (Q16 HB GE141)) : w.heap.size ≤ gb144); replace HB := am (below_step (Q16 HB GE141) hb); have NB := am ((by rw [hg]; exact Nat.ne_of_lt (blk_lt (Q1 BK141 : _ = some (.cells #[.int .i64 a0_0, .slice (some ad143) l0_1.length c0_1] 30 (0, 0))))) : gb141 ≠ gb144); replace BK141 := am (blk_below (g := gb141) (o := .cells #[.int .i64 a0_0, .slice (some ad143) l0_1.length c0_1] 30 (0, 0)) (Q1 BK141) hb); clear hb hbox hg; have hcz11_0 : w10.cell? ⟨gb144, 0, none⟩ = some (.int .i64 0) := (blk_cell BK144.out 0).trans rfl; have hcz11_1 : w10.cell? ⟨gb144, 1, none⟩ = some (.int .i64 0) := (blk_cell BK144.out 1).trans rfl; have hfz11_0 := blk_frozen BK144.out 0; have hfz11_1 := blk_frozen BK144.out 1))
      have n0_ : Aside0 (((w10.setCell ⟨gb144, 0, none⟩ (.int .i64 (rd_T71 l0_1 i).f0)).setCell ⟨gb144, 1, none⟩ (.int .i64 (rd_T71 l0_1 i).f1)).heap[gb141]? = some (.cells #[.int .i64 a0_0, .slice (some ad143) l0_1.length c0_1] 30 (0, 0))) := ⟨by (with_reducible repeat (first | refine blk_drewN ?_ _ | refine blk_drew ?_ | refine blk_alloc ?_ _)); refine blk_far ?_ NB.out _; (with_reducible repeat (first | refine blk_drewN ?_ _ | refine blk_drew ?_ | refine blk_alloc ?_ _)); refine blk_far ?_ NB.out _; (with_reducible repeat (first | refine blk_drewN ?_ _ | refine blk_drew ?_ | refine blk_alloc ?_ _)); exact BK141.out⟩; have n1_ : Aside0 (((w10.setCell ⟨gb144, 0, none⟩ (.int .i64 (rd_T71 l0_1 i).f0)).setCell ⟨gb144, 1, none⟩ (.int .i64 (rd_T71 l0_1 i).f1)).heap[gb144]? = some (.cells #[.int .i64 (rd_T71 l0_1 i).f0, .int .i64 (rd_T71 l0_1 i).f1] 71 (0, 0))) := ⟨by (with_reducible repeat (first | refine blk_drewN ?_ _ | refine blk_drew ?_ | refine blk_alloc ?_ _)); refine blk_put (cs := #[.int .i64 (rd_T71 l0_1 i).f0, .int .i64 0]) ?_ 1 _ rfl; (with_reducible repeat (first | refine blk_drewN ?_ _ | refine blk_drew ?_ | refine blk_alloc ?_ _)); refine blk_put (cs := #[.int .i64 0, .int .i64 0]) ?_ 0 _ rfl; (with_reducible repeat (first | refine blk_drewN ?_ _ | refine blk_drew ?_ | refine blk_alloc ?_ _)); exact BK144.out⟩; have n2_ : Aside0 (Below w.heap.size w ((w10.setCell ⟨gb144, 0, none⟩ (.int .i64 (rd_T71 l0_1 i).f0)).setCell ⟨gb144, 1, none⟩ (.int .i64 (rd_T71 l0_1 i).f1))) := ⟨Q38 HB GE144 GE141⟩; clear BK141 BK144 HB
      try clear hcz11_0
      try clear hcz11_1
      try clear hfz11_0
      try clear hfz11_1
      try clear hx143_0
      try clear hx143_1
      generalize ((w10.setCell ⟨gb144, 0, none⟩ (.int .i64 (rd_T71 l0_1 i).f0)).setCell ⟨gb144, 1, none⟩ (.int .i64 (rd_T71 l0_1 i).f1)) = w13 at n0_ n1_ n2_ ⊢; have BK141 := n0_; have BK144 := n1_; have HB := n2_; clear n0_ n1_ n2_; have hcz14_0 : w13.cell? ⟨gb141, 0, none⟩ = some (.int .i64 a0_0) := (blk_cell BK141.out 0).trans rfl; have hcz14_1 : w13.cell? ⟨gb141, 1, none⟩ = some (.slice (some ad143) l0_1.length c0_1) := (blk_cell BK141.out 1).trans rfl; have hcz15_0 : w13.cell? ⟨gb144, 0, none⟩ = some (.int .i64 (rd_T71 l0_1 i).f0) := (blk_cell BK144.out 0).trans rfl; have hcz15_1 : w13.cell? ⟨gb144, 1, none⟩ = some (.int .i64 (rd_T71 l0_1 i).f1) := (blk_cell BK144.out 1).trans rfl; have H := H'.out; clear H'
      by_cases d1 : (rd_T71 l0_1 i).f0 < 0
      ·rw [if_pos d1] at H
       obtain rfl := Option.some.inj H; have d1b : decide ((rd_T71 l0_1 i).f0 < 0) = true := decide_eq_true d1; clear d1
       go_quiet (fail)
       go_wp2
       go_ret
       exact ⟨Q13, (Q38 HB GE144 GE141)⟩
      ·rw [if_neg d1] at H
       have d1b : decide ((rd_T71 l0_1 i).f0 < 0) = false := decide_eq_false d1; clear d1
       by_cases d2 : (rd_T71 l0_1 i).f0 ≥ (rd_T71 l0_1 i).f1
       ·rw [if_pos d2] at H
        obtain rfl := Option.some.inj H; have d2b : decide ((rd_T71 l0_1 i).f1 ≤ (rd_T71 l0_1 i).f0) = true := decide_eq_true d2; clear d2
        go_quiet (fail)
        go_wp2
        go_ret
        exact ⟨Q13, (Q38 HB GE144 GE141)⟩
       ·rw [if_neg d2] at H
        have d2b : decide ((rd_T71 l0_1 i).f1 ≤ (rd_T71 l0_1 i).f0) = false := decide_eq_false d2; clear d2
        by_cases d3 : (rd_T71 l0_1 i).f1 ≥ a0_0
        ·rw [if_pos d3] at H
         obtain rfl := Option.some.inj H; have d3b : decide (a0_0 ≤ (rd_T71 l0_1 i).f1) = true := decide_eq_true d3; clear d3
         go_quiet (fail)
         go_wp2
         go_ret
         exact ⟨Q13, (Q38 HB GE144 GE141)⟩
        ·rw [if_neg d3] at H
         have d3b : decide (a0_0 ≤ (rd_T71 l0_1 i).f1) = false := decide_eq_false d3; clear d3
         by_cases d4 : i > 0
         ·rw [if_pos d4] at H
          have d4b : decide (0 < i) = true := decide_eq_true d4; obtain ⟨j, hj⟩ : ∃ j : Int, wrap64 (i - 1) = j := ⟨_, rfl⟩; rw [hj] at H; have hjn : j = i - 1 := by have h1 := C6.out; have h2 := HR0_1.out.2.1; have h3 := hj.symm; unfold wrap64 at h3; omega
          have p1 : 0 ≤ j := by omega
          have q1 : j < (l0_1.length : Int) := by have h1 := C6.out; omega
          have HJN := Aside0.mk hjn; clear hjn d4; have hjw : (IntKind.i64.wrap (i - 1)) = j := (i64_w _).trans hj; obtain ⟨ad1, e1, hy0, hy1⟩ := at_T71 HR0_1.out j p1 q1
          cases e1
          replace hy0 := (HB.out.cell (World.block_lt_of_cell? w _ hy0)).trans hy0; replace hy1 := (HB.out.cell (World.block_lt_of_cell? w _ hy1)).trans hy1; replace p1 := eq_true p1; replace q1 := eq_true q1; have HP := Lib.hid hy0; have HP1 := Lib.hid hy1; clear hy0 hy1; have HE0 := Lib.hid hcz15_0; have HE1 := Lib.hid hcz15_1
          by_cases d5 : 0 ≤ pcmp (rd_T71 l0_1 j) (rd_T71 l0_1 i)
          ·rw [if_pos d5] at H
           obtain rfl := Option.some.inj H; have d5b : decide (0 ≤ pcmp (rd_T71 l0_1 j) (rd_T71 l0_1 i)) = true := decide_eq_true d5; clear d5
           go_quiet ((go_at_call 158; exact pcmp_quiet (ad143.add (j.toNat * 2)) ⟨gb144, 0, none⟩ (rd_T71 l0_1 j) (rd_T71 l0_1 i) _ _ HP.out HP1.out HE0.out HE1.out))
           go_wp2
           go_ret
           exact ⟨Q13, (Q38 HB GE144 GE141)⟩
          ·rw [if_neg d5] at H
           have d5b : decide (0 ≤ pcmp (rd_T71 l0_1 j) (rd_T71 l0_1 i)) = false := decide_eq_false d5; clear d5; have H' := Aside0.mk H; clear H
           go_quiet ((go_at_call 158; exact pcmp_quiet (ad143.add (j.toNat * 2)) ⟨gb144, 0, none⟩ (rd_T71 l0_1 j) (rd_T71 l0_1 i) _ _ HP.out HP1.out HE0.out HE1.out))
           go_wp2
           go_roundg k1
           case measure => have := HK1.out; omega
           case rel => exact ⟨(wrap64 (i + 1)), Q13, H', ⟨Q44⟩, ⟨Q1 BK141⟩, ⟨Q38 HB GE144 GE141⟩⟩
         ·rw [if_neg d4] at H
          have d4b : decide (0 < i) = false := decide_eq_false d4; clear d4; have H' := Aside0.mk H; clear H
          go_quiet (fail)
          go_wp2
          go_roundg k1
          case measure => have := HK1.out; omega
          case rel => exact ⟨(wrap64 (i + 1)), Q13, H', ⟨Q44⟩, ⟨Q1 BK141⟩, ⟨Q38 HB GE144 GE141⟩⟩
     ·rw [if_neg c7] at H
      exact absurd H (by simp)
    ·rw [if_neg c6] at H
     have c6b0 : decide (i < (l0_1.length : Int)) = false := decide_eq_false c6; clear c6; obtain rfl := Option.some.inj H
     go_wp2
     go_ret
     exact ⟨Q13, (Q16 HB GE141)⟩
 ·rw [if_neg c3] at h
  obtain rfl := Option.some.inj h; have A2 := am (show impl_within.f a0_0 0 8 = some false by unfold impl_within.f; split <;> simp; omega); clear c3 h
  go_enter Try.func71, Try.ntmps71
  go_wp2_with (first | ((with_reducible refine gate_dst (N := 1) rfl ?_); refine box_event ?hg (N := 1) ?hd (cs := #[.int .i64 a0_0, .slice A0_1 l0_1.length c0_1]) (t := 30) ?hr ?_; (case hd => rfl); (case hg => rfl); (case hr => first | (go_simp; done) | (go_simp; rfl)); intro gb141 hg w4 hbox hb; replace HB := am (below_step HB.out hb); have BK141 := am (hbox); have GE141 := am ((by rw [hg]; exact Nat.le_refl _) : w.heap.size ≤ gb141); clear hb hbox hg; have hcz5_0 : w4.cell? ⟨gb141, 0, none⟩ = some (.int .i64 a0_0) := (blk_cell BK141.out 0).trans rfl; have hcz5_1 : w4.cell? ⟨gb141, 1, none⟩ = some (.slice A0_1 l0_1.length c0_1) := (blk_cell BK141.out 1).trans rfl; have hfz5_0 := blk_frozen BK141.out 0; have hfz5_1 := blk_frozen BK141.out 1) | ((with_reducible refine gate_callee (f := 107) rfl ?_); refine goesL_ (some 7) rfl rfl Try.func107 (by kernel_rfl) rfl #[.int .i64 a0_0, .int .i64 0, .int .i64 8] rfl Q53 ?_; (with_reducible refine (impl_within.calls a0_0 0 8 false _ A2.out).mono ?_); rintro e w' ⟨rfl, ⟨nd, rfl⟩⟩; refine ⟨_, rfl, ?_⟩))
  go_ret
  exact ⟨Q13, (Q16 HB GE141)⟩
/-! ### impl_allWithin: function 190 -/
def impl_allWithin.l0 : Nat → Int → Int → List Int → Int → Int → Option (Bool)
 | 0, _, _, _, _, _ => none
 | k + 1, x1, x2, x9, x10, x11 => if x11 < x10 then (if 0 ≤ x11 then (if x11 < (x9.length : Int) then ((impl_within.f (rd x9 x11) x1 x2).bind fun t102 => (if t102 = true then (impl_allWithin.l0 k x1 x2 x9 x10 (wrap64 (x11 + 1))) else (some false))) else (none)) else (none)) else (some true)
def impl_allWithin.f (k : Nat) (l0 : List Int) (a1 : Int) (a2 : Int) : Option (Bool) := impl_allWithin.l0 k a1 a2 l0 (l0.length : Int) 0
theorem impl_allWithin.mono_l : ∀ k, (∀ y0 y1 y2 y3 y4, LeO (impl_allWithin.l0 k y0 y1 y2 y3 y4) (impl_allWithin.l0 (k + 1) y0 y1 y2 y3 y4))
 | 0 => fun _ _ _ _ _ r h => by simp [impl_allWithin.l0] at h
 | k + 1 => by
  have ih0 := impl_allWithin.mono_l k
  all_goals
   intros
   first | unfold impl_allWithin.l0
   repeat' first | (with_reducible first | exact ih0 _ _ _ _ _ | exact LeO.refl _ | exact LeO.none _ | refine LeO.ite ?_ ?_ | refine LeO.bind ?_ (fun _ => ?_))
theorem impl_allWithin.mono : ∀ a0 a1 a2 k, LeO (impl_allWithin.f k a0 a1 a2) (impl_allWithin.f (k + 1) a0 a1 a2) := by
 intro a0 a1 a2 k
 have ih0 := impl_allWithin.mono_l k
 unfold impl_allWithin.f
 repeat' first | (with_reducible first | exact ih0 _ _ _ _ _ | exact LeO.refl _ | exact LeO.none _ | refine LeO.ite ?_ ?_ | refine LeO.bind ?_ (fun _ => ?_))
set_option maxHeartbeats 8000000 in
set_option maxRecDepth 100000 in
theorem impl_allWithin.calls (k : Nat) (A0 : Option Addr) (c0 : Nat) (l0 : List Int) (a1 : Int) (a2 : Int) (r : Bool) (w : World) (hr0 : Kd.C (Kd.int .i64) w A0 l0.length l0) (hc0 : l0.length ≤ c0) (h : impl_allWithin.f k l0 a1 a2 = some r) :
  Calls Try.prog 190 #[.slice A0 l0.length c0, .int .i64 a1, .int .i64 a2] w fun e w' => e = .returned (.bool r) ∧ Drawn0 w w' := by
 have HR0 := Aside0.mk hr0
 have HC0 := Aside0.mk hc0
 clear hr0 hc0
 have H : (impl_allWithin.l0 k a1 a2 l0 (l0.length : Int) 0) = some r := h
 clear h
 have H' := Aside0.mk H
 clear H
 go_enter Try.func190, Try.ntmps190
 go_wp2
 go_loopg [11] k (fun kq v11 w' => ∃ (x11_1 : Int), v11 = .int .i64 x11_1 ∧ Aside0 (impl_allWithin.l0 kq a1 a2 l0 (l0.length : Int) x11_1 = some r) ∧ Aside0 (kq ≤ k) ∧ Drawn0 w w')
 case atStart => exact ⟨(0), Q13, H', ⟨Nat.le_refl _⟩, Q20⟩
 case round =>
  clear H'
  try clear c1
  try clear p2
  obtain ⟨x11_1, rfl, HA, HK1, ⟨m1, rfl⟩⟩ := hrel
  cases gk with
  | zero => exact absurd HA.out (by simp [impl_allWithin.l0])
  | succ k1 =>
   have H := HA.out; clear HA
   simp only [impl_allWithin.l0] at H
   by_cases c4 : x11_1 < (l0.length : Int)
   ·rw [if_pos c4] at H
    have c4b0 : decide (x11_1 < (l0.length : Int)) = true := decide_eq_true c4; clear c4
    by_cases c5 : 0 ≤ x11_1
    ·rw [if_pos c5] at H
     have c5b0 : decide (0 ≤ x11_1) = true := decide_eq_true c5; clear c5
     by_cases c6 : x11_1 < (l0.length : Int)
     ·rw [if_pos c6] at H
      have c6b0 : decide (x11_1 < (l0.length : Int)) = true := decide_eq_true c6; clear c6; replace H := (ob H); obtain ⟨t102, A70, H⟩ := H; (try dsimp only at H); have A7 := Aside0.mk A70; clear A70; have HU8 := Aside0.mk H; clear H; have p101 : 0 ≤ (x11_1 : Int) := of_decide_eq_true Q10; have q101 : x11_1 < (l0.length : Int) := of_decide_eq_true Q10; obtain ⟨ad101, e101, hx101_0⟩ := Kd.at_int HR0.out x11_1 p101 q101
      cases e101
      replace p101 := eq_true p101; replace q101 := eq_true q101
      go_upto_if 19 with (first | ((with_reducible refine gate_callee (f := 107) rfl ?_); refine goesL_ (some 18) rfl rfl Try.func107 (by kernel_rfl) rfl #[.int .i64 (rd l0 x11_1), .int .i64 a1, .int .i64 a2] rfl Q3 ?_; (with_reducible refine (impl_within.calls (rd l0 x11_1) a1 a2 t102 _ A7.out).mono ?_); rintro e w' ⟨rfl, ⟨nd, rfl⟩⟩; refine ⟨_, rfl, ?_⟩))
      (try simp only [Act.put, List.setIfInBounds_toArray, List.set_cons_zero, List.set_cons_succ]); have H := HU8.out; clear HU8
      by_cases c9 : t102 = true
      ·subst c9
       have H1 : (impl_allWithin.l0 k1 a1 a2 l0 (l0.length : Int) (wrap64 (x11_1 + 1))) = some r := by rw [if_pos rfl] at H; exact H
       clear H; have H := H1; clear H1; have H' := Aside0.mk H; clear H
       go_wp2
       go_roundg k1
       case measure => have := HK1.out; omega
       case rel => exact ⟨(wrap64 (x11_1 + 1)), Q13, H', ⟨Q44⟩, Q20⟩
      ·replace c9 := Bool.eq_false_iff.mpr c9
       subst c9; have H1 : (some false) = some r := by rw [if_neg (show ¬ (false = true) by decide)] at H; exact H
       clear H; have H := H1; clear H1; obtain rfl := Option.some.inj H
       go_wp2
       go_ret
       exact ⟨Q13, Q20⟩
     ·rw [if_neg c6] at H
      exact absurd H (by simp)
    ·rw [if_neg c5] at H
     exact absurd H (by simp)
   ·rw [if_neg c4] at H
    have c4b0 : decide (x11_1 < (l0.length : Int)) = false := decide_eq_false c4; clear c4; obtain rfl := Option.some.inj H
    go_wp2
    go_ret
    exact ⟨Q13, Q20⟩
/-! ### impl_hasNodes: function 123 -/
def impl_hasNodes.f (k : Nat) (a0_0 : Int) (l0_1 : List (S71)) (l1 : List Int) : Option (Bool) := (impl_IsGraph.f k a0_0 l0_1).bind fun t102 => (if t102 = true then ((impl_allWithin.f k l1 0 (wrap64 (a0_0 - 1))).bind fun t103 => (some t103)) else (some false))
theorem impl_hasNodes.mono : ∀ a0 a1 a2 k, LeO (impl_hasNodes.f k a0 a1 a2) (impl_hasNodes.f (k + 1) a0 a1 a2) := by
 intro a0 a1 a2 k
 unfold impl_hasNodes.f
 repeat' first | (with_reducible first | exact impl_IsGraph.mono _ _ _ | exact impl_allWithin.mono _ _ _ _ | exact LeO.refl _ | exact LeO.none _ | refine LeO.ite ?_ ?_ | refine LeO.bind ?_ (fun _ => ?_))
set_option maxHeartbeats 8000000 in
set_option maxRecDepth 100000 in
theorem impl_hasNodes.calls (k : Nat) (a0_0 : Int) (A0_1 : Option Addr) (c0_1 : Nat) (l0_1 : List (S71)) (A1 : Option Addr) (c1 : Nat) (l1 : List Int) (r : Bool) (w : World) (hr0_1 : Kd.C k71 w A0_1 l0_1.length l0_1) (hc0_1 : l0_1.length ≤ c0_1) (hr1 : Kd.C (Kd.int .i64) w A1 l1.length l1) (hc1 : l1.length ≤ c1) (h : impl_hasNodes.f k a0_0 l0_1 l1 = some r) :
  Calls Try.prog 123 #[.agg #[.int .i64 a0_0, .slice A0_1 l0_1.length c0_1], .slice A1 l1.length c1] w fun e w' => e = .returned (.bool r) ∧ Below w.heap.size w w' := by
 have hu30 := Try.underlying30
 have HR0_1 := Aside0.mk hr0_1
 have HC0_1 := Aside0.mk hc0_1
 clear hr0_1 hc0_1
 have HR1 := Aside0.mk hr1
 have HC1 := Aside0.mk hc1
 clear hr1 hc1
 have HB := am (Below.refl w.heap.size w)
 have H : ((impl_IsGraph.f k a0_0 l0_1).bind fun t102 => (if t102 = true then ((impl_allWithin.f k l1 0 (wrap64 (a0_0 - 1))).bind fun t103 => (some t103)) else (some false))) = some r := h
 clear h
 have HU3 := Aside0.mk H
 clear H
 go_enter Try.func123, Try.ntmps123
 go_upto_region 1 with (first | ((with_reducible refine gate_dst (N := 2) rfl ?_); refine box_event ?hg (N := 2) ?hd (cs := #[.int .i64 a0_0, .slice A0_1 l0_1.length c0_1]) (t := 30) ?hr ?_; (case hd => rfl); (case hg => rfl); (case hr => first | (go_simp; done) | (go_simp; rfl)); intro gb101 hg w4 hbox hb; have BK101 := am (hbox); have GW101 := am ((Q25 : w.heap.size ≤ gb101)); have GE101 := am ((Q25 : w.heap.size ≤ gb101)); replace HB := am (below_step (Q0 HB) hb); clear hb hbox hg))
 (try simp only [Act.put, List.setIfInBounds_toArray, List.set_cons_zero, List.set_cons_succ])
 have H := HU3.out
 clear HU3
 replace H := (ob H)
 obtain ⟨t102, A50, H⟩ := H
 (try dsimp only at H)
 have A5 := Aside0.mk A50
 clear A50
 by_cases c6 : t102 = true
 ·subst c6
  have H1 : ((impl_allWithin.f k l1 0 (wrap64 (a0_0 - 1))).bind fun t103 => (some t103)) = some r := by rw [if_pos rfl] at H; exact H
  clear H; have H := H1; clear H1; replace H := (ob H); obtain ⟨t103, A70, H⟩ := H; (try dsimp only at H); have A7 := Aside0.mk A70; clear A70; obtain rfl := Option.some.inj H; have hcz8_0 : w4.cell? ⟨gb101, 0, none⟩ = some (.int .i64 a0_0) := (blk_cell BK101.out 0).trans rfl; have hcz8_1 : w4.cell? ⟨gb101, 1, none⟩ = some (.slice A0_1 l0_1.length c0_1) := (blk_cell BK101.out 1).trans rfl; have hfz8_0 := blk_frozen BK101.out 0; have hfz8_1 := blk_frozen BK101.out 1
  go_wp2_with (first | ((with_reducible refine gate_callee (f := 71) rfl ?_); refine goesL_ (some 6) rfl rfl Try.func71 (by kernel_rfl) rfl #[.agg #[.int .i64 a0_0, .slice A0_1 l0_1.length c0_1]] rfl Q3 ?_; (with_reducible refine (impl_IsGraph.calls k a0_0 _ _ l0_1 true _ ?side1 ?side2 A5.out).mono ?_); (case side1 => exact (Q7 HR0_1 HB)); (case side2 => exact HC0_1.out); rintro e w9 ⟨rfl, hb⟩; refine ⟨_, rfl, ?_⟩; replace BK101 := am (blk_below (g := gb101) (o := .cells #[.int .i64 a0_0, .slice A0_1 l0_1.length c0_1] 30 (0, 0)) (Q1 BK101) hb); replace HB := am (below_step (Q0 HB) hb); (try clear hb); (try clear hb2); (try clear hk); (try clear hi); have hcz10_0 : w9.cell? ⟨gb101, 0, none⟩ = some (.int .i64 a0_0) := (blk_cell BK101.out 0).trans rfl; have hcz10_1 : w9.cell? ⟨gb101, 1, none⟩ = some (.slice A0_1 l0_1.length c0_1) := (blk_cell BK101.out 1).trans rfl; have hfz10_0 := blk_frozen BK101.out 0; have hfz10_1 := blk_frozen BK101.out 1) | (go_at_call 190; (with_reducible refine (impl_allWithin.calls k _ _ l1 0 (wrap64 (a0_0 - 1)) t103 _ ?side1 ?side2 A7.out).mono ?_); (case side1 => exact (Q7 HR1 HB)); (case side2 => exact HC1.out); rintro e w' ⟨rfl, ⟨nd, rfl⟩⟩))
  go_ret
  exact ⟨Q11, Q0 HB⟩
 ·replace c6 := Bool.eq_false_iff.mpr c6
  subst c6; have H1 : (some false) = some r := by rw [if_neg (show ¬ (false = true) by decide)] at H; exact H
  clear H; have H := H1; clear H1; obtain rfl := Option.some.inj H; have hcz11_0 : w4.cell? ⟨gb101, 0, none⟩ = some (.int .i64 a0_0) := (blk_cell BK101.out 0).trans rfl; have hcz11_1 : w4.cell? ⟨gb101, 1, none⟩ = some (.slice A0_1 l0_1.length c0_1) := (blk_cell BK101.out 1).trans rfl; have hfz11_0 := blk_frozen BK101.out 0; have hfz11_1 := blk_frozen BK101.out 1
  go_wp2_with (first | ((with_reducible refine gate_callee (f := 71) rfl ?_); refine goesL_ (some 6) rfl rfl Try.func71 (by kernel_rfl) rfl #[.agg #[.int .i64 a0_0, .slice A0_1 l0_1.length c0_1]] rfl Q3 ?_; (with_reducible refine (impl_IsGraph.calls k a0_0 _ _ l0_1 false _ ?side1 ?side2 A5.out).mono ?_); (case side1 => exact (Q7 HR0_1 HB)); (case side2 => exact HC0_1.out); rintro e w12 ⟨rfl, hb⟩; refine ⟨_, rfl, ?_⟩; replace BK101 := am (blk_below (g := gb101) (o := .cells #[.int .i64 a0_0, .slice A0_1 l0_1.length c0_1] 30 (0, 0)) (Q1 BK101) hb); replace HB := am (below_step (Q0 HB) hb); (try clear hb); (try clear hb2); (try clear hk); (try clear hi)))
  go_ret
  exact ⟨Q11, Q0 HB⟩
/-! ### impl_increasing: function 198 -/
def impl_increasing.l0 : Nat → List Int → Int → Option (Bool)
 | 0, _, _ => none
 | k + 1, x0, x3 => if x3 < (x0.length : Int) then (if 0 ≤ (wrap64 (x3 - 1)) then (if (wrap64 (x3 - 1)) < (x0.length : Int) then (if 0 ≤ x3 then (if (rd x0 (wrap64 (x3 - 1))) ≥ (rd x0 x3) then (some false) else (impl_increasing.l0 k x0 (wrap64 (x3 + 1)))) else (none)) else (none)) else (none)) else (some true)
def impl_increasing.f (k : Nat) (l0 : List Int) : Option (Bool) := impl_increasing.l0 k l0 1
theorem impl_increasing.mono_l : ∀ k, (∀ y0 y1, LeO (impl_increasing.l0 k y0 y1) (impl_increasing.l0 (k + 1) y0 y1))
 | 0 => fun _ _ r h => by simp [impl_increasing.l0] at h
 | k + 1 => by
  have ih0 := impl_increasing.mono_l k
  all_goals
   intros
   first | unfold impl_increasing.l0
   repeat' first | (with_reducible first | exact ih0 _ _ | exact LeO.refl _ | exact LeO.none _ | refine LeO.ite ?_ ?_ | refine LeO.bind ?_ (fun _ => ?_))
theorem impl_increasing.mono : ∀ a0 k, LeO (impl_increasing.f k a0) (impl_increasing.f (k + 1) a0) := by
 intro a0 k
 have ih0 := impl_increasing.mono_l k
 unfold impl_increasing.f
 repeat' first | (with_reducible first | exact ih0 _ _ | exact LeO.refl _ | exact LeO.none _ | refine LeO.ite ?_ ?_ | refine LeO.bind ?_ (fun _ => ?_))
set_option maxHeartbeats 8000000 in
set_option maxRecDepth 100000 in
theorem impl_increasing.calls (k : Nat) (A0 : Option Addr) (c0 : Nat) (l0 : List Int) (r : Bool) (w : World) (hr0 : Kd.C (Kd.int .i64) w A0 l0.length l0) (hc0 : l0.length ≤ c0) (h : impl_increasing.f k l0 = some r) :
  Calls Try.prog 198 #[.slice A0 l0.length c0] w fun e w' => e = .returned (.bool r) ∧ Drawn0 w w' := by
 have HR0 := Aside0.mk hr0
 have HC0 := Aside0.mk hc0
 clear hr0 hc0
 have H : (impl_increasing.l0 k l0 1) = some r := h
 clear h
 have H' := Aside0.mk H
 clear H
 go_enter Try.func198, Try.ntmps198
 go_wp2
 repeat (go_quiet (fail); try go_wp2)
 go_loopg [3] k (fun kq v3 w' => ∃ (x3_1 : Int), v3 = .int .i64 x3_1 ∧ Aside0 (impl_increasing.l0 kq l0 x3_1 = some r) ∧ Aside0 (kq ≤ k) ∧ Drawn0 w w')
 case atStart => exact ⟨(1), Q13, H', ⟨Nat.le_refl _⟩, Q20⟩
 case round =>
  clear H'
  try clear c1
  obtain ⟨x3_1, rfl, HA, HK1, ⟨m1, rfl⟩⟩ := hrel
  cases gk with
  | zero => exact absurd HA.out (by simp [impl_increasing.l0])
  | succ k1 =>
   have H := HA.out; clear HA
   simp only [impl_increasing.l0] at H
   by_cases c2 : x3_1 < (l0.length : Int)
   ·rw [if_pos c2] at H
    have c2b0 : decide (x3_1 < (l0.length : Int)) = true := decide_eq_true c2; clear c2; obtain ⟨ji3, hji3⟩ : ∃ j_ : Int, (wrap64 (x3_1 - 1)) = j_ := ⟨_, rfl⟩; replace H : (if 0 ≤ (ji3) then (if (ji3) < (l0.length : Int) then (if 0 ≤ x3_1 then (if (rd l0 (ji3)) ≥ (rd l0 x3_1) then (some false) else (impl_increasing.l0 k1 l0 (wrap64 (x3_1 + 1)))) else (none)) else (none)) else (none)) = some r := by first | (rw [hji3] at H; exact H) | (simp only [hji3] at H ⊢; exact H)
    have hji3w : (IntKind.i64.wrap (x3_1 - 1)) = ji3 := (i64_w _).trans hji3
    by_cases c4 : 0 ≤ (ji3)
    ·rw [if_pos c4] at H
     have c4b0 : decide (0 ≤ (ji3)) = true := decide_eq_true c4; clear c4
     by_cases c5 : (ji3) < (l0.length : Int)
     ·rw [if_pos c5] at H
      have c5b0 : decide ((ji3) < (l0.length : Int)) = true := decide_eq_true c5; clear c5
      by_cases c6 : 0 ≤ x3_1
      ·rw [if_pos c6] at H
       have c6b0 : decide (0 ≤ x3_1) = true := decide_eq_true c6; clear c6; have HU7 := Aside0.mk H; clear H; have p101 : 0 ≤ ((ji3) : Int) := of_decide_eq_true Q10; have q101 : (ji3) < (l0.length : Int) := of_decide_eq_true Q10; obtain ⟨ad101, e101, hx101_0⟩ := Kd.at_int HR0.out (ji3) p101 q101
       cases e101
       replace p101 := eq_true p101; replace q101 := eq_true q101; have p102 : 0 ≤ (x3_1 : Int) := of_decide_eq_true Q10; have q102 : x3_1 < (l0.length : Int) := of_decide_eq_true Q10; obtain ⟨ad102, e102, hx102_0⟩ := Kd.at_int HR0.out x3_1 p102 q102; obtain rfl : ad101 = ad102 := (by injection e102); replace p102 := eq_true p102; replace q102 := eq_true q102
       go_upto_if 19 with (fail)
       repeat (go_quiet (fail); go_upto_if 19 with (fail))
       have H := HU7.out; clear HU7
       by_cases c8 : (rd l0 (ji3)) ≥ (rd l0 x3_1)
       ·rw [if_pos c8] at H
        have c8b0 : decide ((rd l0 x3_1) ≤ (rd l0 (ji3))) = true := decide_eq_true c8; clear c8
        (first | rw [c8b0] | (simp only [i64_w, i32_w]; rw [c8b0]) | skip)
        obtain rfl := Option.some.inj H
        go_wp2
        repeat (go_quiet (fail); try go_wp2)
        go_ret
        exact ⟨by first | rfl | (simp; done) | (simp only [← hji3] <;> (first | rfl | simp)) | (simp [*]; done), Q20⟩
       ·rw [if_neg c8] at H
        have c8b0 : decide ((rd l0 x3_1) ≤ (rd l0 (ji3))) = false := decide_eq_false c8; clear c8
        (first | rw [c8b0] | (simp only [i64_w, i32_w]; rw [c8b0]) | skip)
        have H' := Aside0.mk H; clear H
        go_wp2
        repeat (go_quiet (fail); try go_wp2)
        go_roundg k1
        case measure => have := HK1.out; omega
        case rel => exact ⟨(wrap64 (x3_1 + 1)), Q13, H', ⟨Q44⟩, Q20⟩
      ·rw [if_neg c6] at H
       exact absurd H (by simp)
     ·rw [if_neg c5] at H
      exact absurd H (by simp)
    ·rw [if_neg c4] at H
     exact absurd H (by simp)
   ·rw [if_neg c2] at H
    have c2b0 : decide (x3_1 < (l0.length : Int)) = false := decide_eq_false c2; clear c2; obtain rfl := Option.some.inj H
    go_wp2
    repeat (go_quiet (fail); try go_wp2)
    go_ret
    exact ⟨Q13, Q20⟩
/-! ### impl_isSet: function 143 -/
def impl_isSet.f (k : Nat) (a0_0 : Int) (l0_1 : List (S71)) (l1 : List Int) : Option (Bool) := (impl_hasNodes.f k a0_0 l0_1 l1).bind fun t102 => (if t102 = true then ((impl_increasing.f k l1).bind fun t103 => (some t103)) else (some false))
theorem impl_isSet.mono : ∀ a0 a1 a2 k, LeO (impl_isSet.f k a0 a1 a2) (impl_isSet.f (k + 1) a0 a1 a2) := by
 intro a0 a1 a2 k
 unfold impl_isSet.f
 repeat' first | (with_reducible first | exact impl_hasNodes.mono _ _ _ _ | exact impl_increasing.mono _ _ | exact LeO.refl _ | exact LeO.none _ | refine LeO.ite ?_ ?_ | refine LeO.bind ?_ (fun _ => ?_))
set_option maxHeartbeats 8000000 in
set_option maxRecDepth 100000 in
theorem impl_isSet.calls (k : Nat) (a0_0 : Int) (A0_1 : Option Addr) (c0_1 : Nat) (l0_1 : List (S71)) (A1 : Option Addr) (c1 : Nat) (l1 : List Int) (r : Bool) (w : World) (hr0_1 : Kd.C k71 w A0_1 l0_1.length l0_1) (hc0_1 : l0_1.length ≤ c0_1) (hr1 : Kd.C (Kd.int .i64) w A1 l1.length l1) (hc1 : l1.length ≤ c1) (h : impl_isSet.f k a0_0 l0_1 l1 = some r) :
  Calls Try.prog 143 #[.agg #[.int .i64 a0_0, .slice A0_1 l0_1.length c0_1], .slice A1 l1.length c1] w fun e w' => e = .returned (.bool r) ∧ Below w.heap.size w w' := by
 have hu30 := Try.underlying30
 have HR0_1 := Aside0.mk hr0_1
 have HC0_1 := Aside0.mk hc0_1
 clear hr0_1 hc0_1
 have HR1 := Aside0.mk hr1
 have HC1 := Aside0.mk hc1
 clear hr1 hc1
 have HB := am (Below.refl w.heap.size w)
 have H : ((impl_hasNodes.f k a0_0 l0_1 l1).bind fun t102 => (if t102 = true then ((impl_increasing.f k l1).bind fun t103 => (some t103)) else (some false))) = some r := h
 clear h
 have HU3 := Aside0.mk H
 clear H
 go_enter Try.func143, Try.ntmps143
 go_upto_region 1 with (first | ((with_reducible refine gate_dst (N := 2) rfl ?_); refine box_event ?hg (N := 2) ?hd (cs := #[.int .i64 a0_0, .slice A0_1 l0_1.length c0_1]) (t := 30) ?hr ?_; (case hd => rfl); (case hg => rfl); (case hr => first | (go_simp; done) | (go_simp; rfl)); intro gb101 hg w4 hbox hb; have BK101 := am (hbox); have GW101 := am ((Q25 : w.heap.size ≤ gb101)); have GE101 := am ((Q25 : w.heap.size ≤ gb101)); replace HB := am (below_step (Q0 HB) hb); clear hb hbox hg))
 (try simp only [Act.put, List.setIfInBounds_toArray, List.set_cons_zero, List.set_cons_succ])
 have H := HU3.out
 clear HU3
 replace H := (ob H)
 obtain ⟨t102, A50, H⟩ := H
 (try dsimp only at H)
 have A5 := Aside0.mk A50
 clear A50
 by_cases c6 : t102 = true
 ·subst c6
  have H1 : ((impl_increasing.f k l1).bind fun t103 => (some t103)) = some r := by rw [if_pos rfl] at H; exact H
  clear H; have H := H1; clear H1; replace H := (ob H); obtain ⟨t103, A70, H⟩ := H; (try dsimp only at H); have A7 := Aside0.mk A70; clear A70; obtain rfl := Option.some.inj H; have hcz8_0 : w4.cell? ⟨gb101, 0, none⟩ = some (.int .i64 a0_0) := (blk_cell BK101.out 0).trans rfl; have hcz8_1 : w4.cell? ⟨gb101, 1, none⟩ = some (.slice A0_1 l0_1.length c0_1) := (blk_cell BK101.out 1).trans rfl; have hfz8_0 := blk_frozen BK101.out 0; have hfz8_1 := blk_frozen BK101.out 1
  go_wp2_with (first | ((with_reducible refine gate_callee (f := 123) rfl ?_); refine goesL_ (some 7) rfl rfl Try.func123 (by kernel_rfl) rfl #[.agg #[.int .i64 a0_0, .slice A0_1 l0_1.length c0_1], .slice A1 l1.length c1] rfl Q3 ?_; (with_reducible refine (impl_hasNodes.calls k a0_0 _ _ l0_1 _ _ l1 true _ ?side1 ?side2 ?side3 ?side4 A5.out).mono ?_); (case side1 => exact (Q7 HR0_1 HB)); (case side2 => exact HC0_1.out); (case side3 => exact (Q7 HR1 HB)); (case side4 => exact HC1.out); rintro e w9 ⟨rfl, hb⟩; refine ⟨_, rfl, ?_⟩; replace BK101 := am (blk_below (g := gb101) (o := .cells #[.int .i64 a0_0, .slice A0_1 l0_1.length c0_1] 30 (0, 0)) (Q1 BK101) hb); replace HB := am (below_step (Q0 HB) hb); (try clear hb); (try clear hb2); (try clear hk); (try clear hi)) | (go_at_call 198; (with_reducible refine (impl_increasing.calls k _ _ l1 t103 _ ?side1 ?side2 A7.out).mono ?_); (case side1 => exact (Q7 HR1 HB)); (case side2 => exact HC1.out); rintro e w' ⟨rfl, ⟨nd, rfl⟩⟩))
  go_ret
  exact ⟨Q11, Q0 HB⟩
 ·replace c6 := Bool.eq_false_iff.mpr c6
  subst c6; have H1 : (some false) = some r := by rw [if_neg (show ¬ (false = true) by decide)] at H; exact H
  clear H; have H := H1; clear H1; obtain rfl := Option.some.inj H; have hcz10_0 : w4.cell? ⟨gb101, 0, none⟩ = some (.int .i64 a0_0) := (blk_cell BK101.out 0).trans rfl; have hcz10_1 : w4.cell? ⟨gb101, 1, none⟩ = some (.slice A0_1 l0_1.length c0_1) := (blk_cell BK101.out 1).trans rfl; have hfz10_0 := blk_frozen BK101.out 0; have hfz10_1 := blk_frozen BK101.out 1
  go_wp2_with (first | ((with_reducible refine gate_callee (f := 123) rfl ?_); refine goesL_ (some 7) rfl rfl Try.func123 (by kernel_rfl) rfl #[.agg #[.int .i64 a0_0, .slice A0_1 l0_1.length c0_1], .slice A1 l1.length c1] rfl Q3 ?_; (with_reducible refine (impl_hasNodes.calls k a0_0 _ _ l0_1 _ _ l1 false _ ?side1 ?side2 ?side3 ?side4 A5.out).mono ?_); (case side1 => exact (Q7 HR0_1 HB)); (case side2 => exact HC0_1.out); (case side3 => exact (Q7 HR1 HB)); (case side4 => exact HC1.out); rintro e w11 ⟨rfl, hb⟩; refine ⟨_, rfl, ?_⟩; replace BK101 := am (blk_below (g := gb101) (o := .cells #[.int .i64 a0_0, .slice A0_1 l0_1.length c0_1] 30 (0, 0)) (Q1 BK101) hb); replace HB := am (below_step (Q0 HB) hb); (try clear hb); (try clear hb2); (try clear hk); (try clear hi)))
  go_ret
  exact ⟨Q11, Q0 HB⟩
/-! ### impl_netOf: function 101 -/
def impl_netOf.l0 : Nat → List (S71) → Int → Int → List Int → Option (List Int)
 | 0, _, _, _, _ => none
 | k + 1, x11, x12, x13, x107000 => if x13 < x12 then (if 0 ≤ x13 then (if x13 < (x11.length : Int) then (if 0 ≤ ((rd_T71 x11 x13).f0) then (if ((rd_T71 x11 x13).f0) < (x107000.length : Int) then (if 0 ≤ ((rd_T71 x11 x13).f1) then ((some (x107000.set (((rd_T71 x11 x13).f0) : Int).toNat (Go.bits .or .i64 (rd x107000 ((rd_T71 x11 x13).f0)) (shl .i64 1 ((rd_T71 x11 x13).f1))) : List Int)).bind fun y110 => (if ((rd_T71 x11 x13).f1) < (x107000.length : Int) then (impl_netOf.l0 k x11 x12 (wrap64 (x13 + 1)) (y110.set (((rd_T71 x11 x13).f1) : Int).toNat (Go.bits .or .i64 (rd y110 ((rd_T71 x11 x13).f1)) (shl .i64 1 ((rd_T71 x11 x13).f0))))) else (none))) else (none)) else (none)) else (none)) else (none)) else (none)) else (some x107000)
def impl_netOf.f (k : Nat) (a0_0 : Int) (l0_1 : List (S71)) : Option (List Int) := if 0 ≤ a0_0 then (if (a0_0 : Int).toNat ≤ 35184372088832 then (impl_netOf.l0 k l0_1 (l0_1.length : Int) 0 (List.replicate (a0_0 : Int).toNat 0)) else (none)) else (none)
theorem impl_netOf.mono_l : ∀ k, (∀ y0 y1 y2 y3, LeO (impl_netOf.l0 k y0 y1 y2 y3) (impl_netOf.l0 (k + 1) y0 y1 y2 y3))
 | 0 => fun _ _ _ _ r h => by simp [impl_netOf.l0] at h
 | k + 1 => by
  have ih0 := impl_netOf.mono_l k
  all_goals
   intros
   first | unfold impl_netOf.l0
   repeat' first | (with_reducible first | exact ih0 _ _ _ _ | exact LeO.refl _ | exact LeO.none _ | refine LeO.ite ?_ ?_ | refine LeO.bind ?_ (fun _ => ?_))
theorem impl_netOf.mono : ∀ a0 a1 k, LeO (impl_netOf.f k a0 a1) (impl_netOf.f (k + 1) a0 a1) := by
 intro a0 a1 k
 have ih0 := impl_netOf.mono_l k
 unfold impl_netOf.f
 repeat' first | (with_reducible first | exact ih0 _ _ _ _ | exact LeO.refl _ | exact LeO.none _ | refine LeO.ite ?_ ?_ | refine LeO.bind ?_ (fun _ => ?_))
def impl_netOf.T5 : Bool × List (List Nat × List Nat) := (true, [([], []), ([0], [0]), ([], []), ([2], [2]), ([1, 3], [1, 3]), ([4], [4]), ([], []), ([6], [6]), ([7], [7]), ([5, 8], [5, 8]), ([1, 3, 0, 1, 2, 3, 4, 5, 6, 7, 8, 9], [1, 3]), ([10, 9, 0, 1, 2, 3, 4, 5, 6, 7, 8, 9], [9, 10])])
def impl_netOf.B5 : List Nat := [0, 1, 0, 4, 15, 31, 0, 64, 192, 511, 1023, 2047]
theorem impl_netOf.tab5 : rtab .any (opsOf Try.f101 5) = impl_netOf.T5 := by kernel_rfl
theorem impl_netOf.bits5 : waitsOk impl_netOf.T5.2 impl_netOf.B5 = true := by kernel_rfl
def impl_netOf.T6 : Bool × List (List Nat × List Nat) := (true, [([], []), ([0], [0]), ([], []), ([2], [2]), ([1, 3], [1, 3]), ([4], [4]), ([], []), ([6], [6]), ([7], [7]), ([5, 8], [5, 8]), ([1, 3, 0, 1, 2, 3, 4, 5, 6, 7, 8, 9], [1, 3]), ([10, 9, 0, 1, 2, 3, 4, 5, 6, 7, 8, 9], [9, 10])])
def impl_netOf.B6 : List Nat := [0, 1, 0, 4, 15, 31, 0, 64, 192, 511, 1023, 2047]
theorem impl_netOf.tab6 : rtab .any (opsOf Try.f101 6) = impl_netOf.T6 := by kernel_rfl
theorem impl_netOf.bits6 : waitsOk impl_netOf.T6.2 impl_netOf.B6 = true := by kernel_rfl
set_option maxHeartbeats 8000000 in
set_option maxRecDepth 100000 in
theorem impl_netOf.calls (k : Nat) (a0_0 : Int) (A0_1 : Option Addr) (c0_1 : Nat) (l0_1 : List (S71)) (r : List Int) (w : World) (hr0_1 : Kd.C k71 w A0_1 l0_1.length l0_1) (hc0_1 : l0_1.length ≤ c0_1) (h : impl_netOf.f k a0_0 l0_1 = some r) :
  Calls Try.prog 101 #[.agg #[.int .i64 a0_0, .slice A0_1 l0_1.length c0_1]] w fun e w' => ∃ v0_ : Value, e = .returned (.agg #[v0_]) ∧ Kd.R (Kd.int .i64) 3 w' w.heap.size (fun _ => True) v0_ r ∧ Below w.heap.size w w' := by
 have hu30 := Try.underlying30
 have hu90 := Try.underlying90
 have hu71 := Try.underlying71
 have HR0_1 := Aside0.mk hr0_1
 have HC0_1 := Aside0.mk hc0_1
 clear hr0_1 hc0_1
 have HB := am (Below.refl w.heap.size w)
 have H : (if 0 ≤ a0_0 then (if (a0_0 : Int).toNat ≤ 35184372088832 then (impl_netOf.l0 k l0_1 (l0_1.length : Int) 0 (List.replicate (a0_0 : Int).toNat 0)) else (none)) else (none)) = some r := h
 clear h
 by_cases c2 : 0 ≤ a0_0
 ·rw [if_pos c2] at H
  have c2b0 := eq_true c2; have c2b1 := decide_eq_true c2; clear c2
  by_cases c3 : (a0_0 : Int).toNat ≤ 35184372088832
  ·rw [if_pos c3] at H
   have c3b0 := eq_true c3; have c3b1 := decide_eq_true c3; clear c3; obtain ⟨y103, hy103⟩ : ∃ y_ : List Int, y_ = (List.replicate (a0_0 : Int).toNat 0) := ⟨_, rfl⟩; replace H : (impl_netOf.l0 k l0_1 (l0_1.length : Int) 0 y103) = some r := RH hy103 H; have Ny103 := Aside0.mk hy103; clear hy103; have H' := Aside0.mk H; clear H
   go_enter Try.func101, Try.ntmps101
   go_wp2_with (first | ((with_reducible refine gate_dst (N := 1) rfl ?_); refine box_event ?hg (N := 1) ?hd (cs := #[.int .i64 a0_0, .slice A0_1 l0_1.length c0_1]) (t := 30) ?hr ?_; (case hd => rfl); (case hg => rfl); (case hr => first | (go_simp; done) | (go_simp; rfl)); intro gb101 hg w4 hbox hb; have BK101 := am (hbox); have GW101 := am ((Q25 : w.heap.size ≤ gb101)); have GE101 := am ((Q25 : w.heap.size ≤ gb101)); replace HB := am (below_step (Q0 HB) hb); clear hb hbox hg) | ((with_reducible refine gate_dst (N := 2) rfl ?_); refine box_event ?hg (N := 2) ?hd (cs := #[.slice none 0 0]) (t := 90) ?hr ?_; (case hd => rfl); (case hg => rfl); (case hr => first | (go_simp; done) | (go_simp; rfl)); intro gb102 hg w5 hbox hb; have BK102 := am (hbox); have GW102 := am ((Q25 : w.heap.size ≤ gb102)); have GE102 := am ((Q25 : w.heap.size ≤ gb102)); replace HB := am (below_step (Q0 HB) hb); have NB101_102 := am ((Q90 : gb101 ≠ gb102)); have NB102_101 := am ((Q91 : gb102 ≠ gb101)); replace BK101 := am (blk_below (g := gb101) (o := .cells #[.int .i64 a0_0, .slice A0_1 l0_1.length c0_1] 30 (0, 0)) (Q1 BK101) hb); clear hb hbox hg; have hnb6 := NB101_102.out; have hnc6 := NB102_101.out; have hcz7_0 : w5.cell? ⟨gb101, 0, none⟩ = some (.int .i64 a0_0) := (blk_cell BK101.out 0).trans rfl; have hcz7_1 : w5.cell? ⟨gb101, 1, none⟩ = some (.slice A0_1 l0_1.length c0_1) := (blk_cell BK101.out 1).trans rfl; have hfz7_0 := blk_frozen BK101.out 0; have hfz7_1 := blk_frozen BK101.out 1) | ((with_reducible refine gate_dst (N := 8) rfl ?_); refine Kd.R_make (Kd.int .i64) _ 3 rfl (N := 8) rfl 25 _ _ rfl a0_0 rfl rfl Try.underlying25 (.int .i64 0) 8 info3 rfl (by decide) (by omega) 0 (ok := fun _ => True) (okp := fun _ => True) rfl (fun _ hk => hk) trivial (of_decide_eq_true Q10) (Nat.le_trans (Nat.mul_le_mul_right _ (of_decide_eq_true Q10 : a0_0.toNat ≤ 35184372088832)) (by omega)) (Below.refl _ _) (Nat.le_refl _) ?_; intro v104 w8 ho9 hb hg_ hnew_; clear hg_ hnew_; (first | rw [← Ny103.out] at ho9 | (simp only [Int.reduceToNat] at ho9; rw [← Ny103.out] at ho9)); have HO105 := am (Kd.R_lower ho9 (below_size (Q0 HB))); replace BK101 := am (blk_below (g := gb101) (o := .cells #[.int .i64 a0_0, .slice A0_1 l0_1.length c0_1] 30 (0, 0)) (Q1 BK101) hb); replace BK102 := am (blk_below (g := gb102) (o := .cells #[.slice none 0 0] 90 (0, 0)) (Q1 BK102) hb); replace HB := am (below_step (Q0 HB) hb); clear hb ho9; obtain ⟨Ao10, co10, eo10⟩ := Kd.R_slice HO105.out; subst eo10) | ((with_reducible refine gate_dst (N := 3) rfl ?_); refine box_event ?hg (N := 3) ?hd (cs := #[.slice none 0 0]) (t := 90) ?hr ?_; (case hd => rfl); (case hg => rfl); (case hr => first | (go_simp; done) | (go_simp; rfl)); intro gb106 hg w11 hbox hb; replace HO105 := am (Kd.R_below (Q2 HO105) hb); have BK106 := am (hbox); have GW106 := am ((Q25 : w.heap.size ≤ gb106)); have GE106 := am ((Q25 : w.heap.size ≤ gb106)); replace HB := am (below_step (Q0 HB) hb); have NB101_106 := am ((Q90 : gb101 ≠ gb106)); have NB106_101 := am ((Q91 : gb106 ≠ gb101)); replace BK101 := am (blk_below (g := gb101) (o := .cells #[.int .i64 a0_0, .slice A0_1 l0_1.length c0_1] 30 (0, 0)) (Q1 BK101) hb); have NB102_106 := am ((by rw [hg]; exact Nat.ne_of_lt (blk_lt (g := gb102) (o := .cells #[.slice none 0 0] 90 (0, 0)) (Q1 BK102)) : gb102 ≠ gb106)); have NB106_102 := am ((by rw [hg]; exact Nat.ne_of_gt (blk_lt (g := gb102) (o := .cells #[.slice none 0 0] 90 (0, 0)) (Q1 BK102)) : gb106 ≠ gb102)); replace BK102 := am (blk_below (g := gb102) (o := .cells #[.slice none 0 0] 90 (0, 0)) (Q1 BK102) hb); clear hb hbox hg; have hnb12 := NB106_101.out; have hnc12 := NB101_106.out; have hnb13 := NB106_102.out; have hnc13 := NB102_106.out; have hcz14_0 : w11.cell? ⟨gb106, 0, none⟩ = some (.slice none 0 0) := (blk_cell BK106.out 0).trans rfl; have hfz14_0 := blk_frozen BK106.out 0; have hcz15_0 : w11.cell? ⟨gb101, 0, none⟩ = some (.int .i64 a0_0) := (blk_cell BK101.out 0).trans rfl; have hcz15_1 : w11.cell? ⟨gb101, 1, none⟩ = some (.slice A0_1 l0_1.length c0_1) := (blk_cell BK101.out 1).trans rfl; have hfz15_0 := blk_frozen BK101.out 0; have hfz15_1 := blk_frozen BK101.out 1))
   go_loopg [13] k (fun kq v13 w' => ∃ (x13_1 : Int) (x107000_1 : List Int) (u107000 : Value), v13 = .int .i64 x13_1 ∧ Aside0 (impl_netOf.l0 kq l0_1 (l0_1.length : Int) x13_1 x107000_1 = some r) ∧ Aside0 (kq ≤ k) ∧ Aside0 (Kd.R (Kd.int .i64) 3 w' w.heap.size (fun _ => True) u107000 x107000_1) ∧ Aside0 (w'.heap[gb101]? = some (.cells #[.int .i64 a0_0, (.slice A0_1 l0_1.length c0_1)] 30 (0, 0))) ∧ Aside0 (w'.heap[gb102]? = some (.cells #[(.slice none 0 0)] 90 (0, 0))) ∧ Aside0 (w'.heap[gb106]? = some (.cells #[u107000] 90 (0, 0))) ∧ Aside0 (Below w.heap.size w w'))
   case atStart => exact ⟨(0), (y103), (.slice Ao10 y103.length co10), Q13, H', ⟨Nat.le_refl _⟩, ⟨by (with_reducible repeat (first | apply Kd.R_alloc | apply Kd.R_drewN | apply Kd.R_drew)); exact Kd.R_mono (Kd.R_far (p := ⟨gb106, 0, none⟩) (Kd.R_types HO105.out BK106.out (by decide)) (fun _ hk => hk.2) (.slice Ao10 y103.length co10)) (fun _ hk => trivial)⟩, ⟨Q29 NB101_106 BK101⟩, ⟨Q29 NB102_106 BK102⟩, ⟨Q63 BK106⟩, ⟨Q16 HB GE106⟩⟩
   case round =>
    clear H'
    try clear c1
    try clear c2
    try clear c2b0
    try clear c2b1
    try clear p2
    try clear c3
    try clear c3b0
    try clear c3b1
    try clear c6
    try clear c10
    try clear c12
    try clear c13
    try clear hcz14_0
    try clear hcz15_0
    try clear hcz15_1
    try clear hcz7_0
    try clear hcz7_1
    try clear hfz14_0
    try clear hfz15_0
    try clear hfz15_1
    try clear hfz7_0
    try clear hfz7_1
    obtain ⟨x13_1, x107000_1, u107000, rfl, HA, HK1, HO_107000, BK101, BK102, BK106, HB⟩ := hrel
    cases gk with
    | zero => exact absurd HA.out (by simp [impl_netOf.l0])
    | succ k1 =>
     have H := HA.out; clear HA
     simp only [impl_netOf.l0] at H
     by_cases c16 : x13_1 < (l0_1.length : Int)
     ·rw [if_pos c16] at H
      have c16b0 := decide_eq_true c16; clear c16
      by_cases c17 : 0 ≤ x13_1
      ·rw [if_pos c17] at H
       have c17b0 := decide_eq_true c17; clear c17
       by_cases c18 : x13_1 < (l0_1.length : Int)
       ·rw [if_pos c18] at H
        have c18b0 := decide_eq_true c18; clear c18
        by_cases c19 : 0 ≤ ((rd_T71 l0_1 x13_1).f0)
        ·rw [if_pos c19] at H
         have c19b0 := decide_eq_true c19; clear c19
         by_cases c20 : ((rd_T71 l0_1 x13_1).f0) < (x107000_1.length : Int)
         ·rw [if_pos c20] at H
          have c20b0 := decide_eq_true c20; clear c20
          by_cases c21 : 0 ≤ ((rd_T71 l0_1 x13_1).f1)
          ·rw [if_pos c21] at H
           have c21b0 := eq_true c21; have c21b1 := decide_eq_true c21; clear c21; obtain ⟨ji22, hji22⟩ : ∃ j_ : Int, (shl .i64 1 ((rd_T71 l0_1 x13_1).f1)) = j_ := ⟨_, rfl⟩; replace H : ((some (x107000_1.set (((rd_T71 l0_1 x13_1).f0) : Int).toNat (Go.bits .or .i64 (rd x107000_1 ((rd_T71 l0_1 x13_1).f0)) (ji22)) : List Int)).bind fun y110 => (if ((rd_T71 l0_1 x13_1).f1) < (x107000_1.length : Int) then (impl_netOf.l0 k1 l0_1 (l0_1.length : Int) (wrap64 (x13_1 + 1)) (y110.set (((rd_T71 l0_1 x13_1).f1) : Int).toNat (Go.bits .or .i64 (rd y110 ((rd_T71 l0_1 x13_1).f1)) (shl .i64 1 ((rd_T71 l0_1 x13_1).f0))))) else (none))) = some r := by first | (rw [hji22] at H; exact H) | (simp only [hji22] at H ⊢; exact H)
           have hji22_ : (IntKind.i64.wrap (1 * 2 ^ min ((rd_T71 l0_1 x13_1).f1).toNat 64)) = ji22 := hji22; have hji22z : ((rd_T71 l0_1 x13_1).f1) ≤ 64 → (IntKind.i64.wrap (1 * 2 ^ ((rd_T71 l0_1 x13_1).f1).toNat)) = ji22 := shl_small hji22; have hji22u : (IntKind.i64.wrap (2 ^ min ((rd_T71 l0_1 x13_1).f1).toNat 64)) = ji22 := by have h_ := hji22_; rw [Int.one_mul] at h_; exact h_
           have hji22v : ((rd_T71 l0_1 x13_1).f1) ≤ 64 → (IntKind.i64.wrap (2 ^ ((rd_T71 l0_1 x13_1).f1).toNat)) = ji22 := fun hle_ => by have h_ := hji22z hle_; rw [Int.one_mul] at h_; exact h_
           have hji22y : (wrap64 (1 * 2 ^ min ((rd_T71 l0_1 x13_1).f1).toNat 64)) = ji22 := (i64_w _).symm.trans hji22_; have hji22x : ((rd_T71 l0_1 x13_1).f1) ≤ 64 → (wrap64 (1 * 2 ^ ((rd_T71 l0_1 x13_1).f1).toNat)) = ji22 := fun h_ => (i64_w _).symm.trans (hji22z h_)
           obtain ⟨y110, hy110⟩ : ∃ y_ : List Int, y_ = (x107000_1.set (((rd_T71 l0_1 x13_1).f0) : Int).toNat (Go.bits .or .i64 (rd x107000_1 ((rd_T71 l0_1 x13_1).f0)) (ji22))) := ⟨_, rfl⟩; replace H : (if ((rd_T71 l0_1 x13_1).f1) < (x107000_1.length : Int) then (impl_netOf.l0 k1 l0_1 (l0_1.length : Int) (wrap64 (x13_1 + 1)) (y110.set (((rd_T71 l0_1 x13_1).f1) : Int).toNat (Go.bits .or .i64 (rd y110 ((rd_T71 l0_1 x13_1).f1)) (shl .i64 1 ((rd_T71 l0_1 x13_1).f0))))) else (none)) = some r := RH hy110 H; have Ny110 := Aside0.mk hy110; clear hy110
           by_cases c24 : ((rd_T71 l0_1 x13_1).f1) < (x107000_1.length : Int)
           ·rw [if_pos c24] at H
            have c24b0 := decide_eq_true c24; clear c24; have c25b0 := eq_true (of_decide_eq_true Q10 : 0 ≤ ((rd_T71 l0_1 x13_1).f0)); obtain ⟨ji26, hji26⟩ : ∃ j_ : Int, (shl .i64 1 ((rd_T71 l0_1 x13_1).f0)) = j_ := ⟨_, rfl⟩; replace H : (impl_netOf.l0 k1 l0_1 (l0_1.length : Int) (wrap64 (x13_1 + 1)) (y110.set (((rd_T71 l0_1 x13_1).f1) : Int).toNat (Go.bits .or .i64 (rd y110 ((rd_T71 l0_1 x13_1).f1)) (ji26)))) = some r := by first | (rw [hji26] at H; exact H) | (simp only [hji26] at H ⊢; exact H)
            have hji26_ : (IntKind.i64.wrap (1 * 2 ^ min ((rd_T71 l0_1 x13_1).f0).toNat 64)) = ji26 := hji26; have hji26z : ((rd_T71 l0_1 x13_1).f0) ≤ 64 → (IntKind.i64.wrap (1 * 2 ^ ((rd_T71 l0_1 x13_1).f0).toNat)) = ji26 := shl_small hji26; have hji26u : (IntKind.i64.wrap (2 ^ min ((rd_T71 l0_1 x13_1).f0).toNat 64)) = ji26 := by have h_ := hji26_; rw [Int.one_mul] at h_; exact h_
            have hji26v : ((rd_T71 l0_1 x13_1).f0) ≤ 64 → (IntKind.i64.wrap (2 ^ ((rd_T71 l0_1 x13_1).f0).toNat)) = ji26 := fun hle_ => by have h_ := hji26z hle_; rw [Int.one_mul] at h_; exact h_
            have hji26y : (wrap64 (1 * 2 ^ min ((rd_T71 l0_1 x13_1).f0).toNat 64)) = ji26 := (i64_w _).symm.trans hji26_; have hji26x : ((rd_T71 l0_1 x13_1).f0) ≤ 64 → (wrap64 (1 * 2 ^ ((rd_T71 l0_1 x13_1).f0).toNat)) = ji26 := fun h_ => (i64_w _).symm.trans (hji26z h_)
            obtain ⟨y112, hy112⟩ : ∃ y_ : List Int, y_ = (y110.set (((rd_T71 l0_1 x13_1).f1) : Int).toNat (Go.bits .or .i64 (rd y110 ((rd_T71 l0_1 x13_1).f1)) (ji26))) := ⟨_, rfl⟩; replace H : (impl_netOf.l0 k1 l0_1 (l0_1.length : Int) (wrap64 (x13_1 + 1)) y112) = some r := RH hy112 H; have Ny112 := Aside0.mk hy112; clear hy112; have H' := Aside0.mk H; clear H; have p107 : 0 ≤ (x13_1 : Int) := of_decide_eq_true Q10; have q107 : x13_1 < (l0_1.length : Int) := of_decide_eq_true Q10; obtain ⟨ad107, e107, hx107_0, hx107_1⟩ := at_T71 HR0_1.out x13_1 p107 q107
            cases e107
            replace hx107_0 := (HB.out.cell (World.block_lt_of_cell? w _ hx107_0)).trans hx107_0; replace hx107_1 := (HB.out.cell (World.block_lt_of_cell? w _ hx107_1)).trans hx107_1; replace p107 := eq_true p107; replace q107 := eq_true q107
            try go_wp2_with (first | ((with_reducible refine gate_dst (N := 5) rfl ?_); refine box_event ?hg (N := 5) ?hd (cs := #[.int .i64 0, .int .i64 0]) (t := 71) ?hr ?_; (case hd => rfl); (case hg => rfl); (case hr => first | (go_simp; done) | (go_simp; rfl)); intro gb108 hg w28 hbox hb; replace HO_107000 := am (Kd.R_below (by (with_reducible repeat (first | apply Kd.R_alloc | apply Kd.R_drewN | apply Kd.R_drew)); exact HO_107000.out) hb); have BK108 := am (hbox); have GW108 := am ((Q25 : w.heap.size ≤ gb108)); have GE108 := am ((Q25 : w.heap.size ≤ gb108)); replace HB := am (below_step (Q0 HB) hb); have NB101_108 := am ((by rw [hg]; exact Nat.ne_of_lt (blk_lt (g := gb101) (o := .cells #[.int .i64 a0_0, .slice (some ad107) l0_1.length c0_1] 30 (0, 0)) (Q1 BK101)) : gb101 ≠ gb108)); have NB108_101 := am ((by rw [hg]; exact Nat.ne_of_gt (blk_lt (g := gb101) (o := .cells #[.int .i64 a0_0, .slice (some ad107) l0_1.length c0_1] 30 (0, 0)) (Q1 BK101)) : gb108 ≠ gb101)); replace BK101 := am (blk_below (g := gb101) (o := .cells #[.int .i64 a0_0, .slice (some ad107) l0_1.length c0_1] 30 (0, 0)) (Q1 BK101) hb); have NB102_108 := am ((by rw [hg]; exact Nat.ne_of_lt (blk_lt (g := gb102) (o := .cells #[.slice none 0 0] 90 (0, 0)) (Q1 BK102)) : gb102 ≠ gb108)); have NB108_102 := am ((by rw [hg]; exact Nat.ne_of_gt (blk_lt (g := gb102) (o := .cells #[.slice none 0 0] 90 (0, 0)) (Q1 BK102)) : gb108 ≠ gb102)); replace BK102 := am (blk_below (g := gb102) (o := .cells #[.slice none 0 0] 90 (0, 0)) (Q1 BK102) hb); have NB106_108 := am ((by rw [hg]; exact Nat.ne_of_lt (blk_lt (g := gb106) (o := .cells #[u107000] 90 (0, 0)) (Q1 BK106)) : gb106 ≠ gb108)); have NB108_106 := am ((by rw [hg]; exact Nat.ne_of_gt (blk_lt (g := gb106) (o := .cells #[u107000] 90 (0, 0)) (Q1 BK106)) : gb108 ≠ gb106)); replace BK106 := am (blk_below (g := gb106) (o := .cells #[u107000] 90 (0, 0)) (Q1 BK106) hb); clear hb hbox hg; have hnb29 := NB108_101.out; have hnc29 := NB101_108.out; have hnb30 := NB108_102.out; have hnc30 := NB102_108.out; have hnb31 := NB108_106.out; have hnc31 := NB106_108.out; have hcz32_0 : w28.cell? ⟨gb108, 0, none⟩ = some (.int .i64 0) := (blk_cell BK108.out 0).trans rfl; have hcz32_1 : w28.cell? ⟨gb108, 1, none⟩ = some (.int .i64 0) := (blk_cell BK108.out 1).trans rfl; have hfz32_0 := blk_frozen BK108.out 0; have hfz32_1 := blk_frozen BK108.out 1))
            have n0_ : Aside0 (Kd.R (Kd.int .i64) 3 ((w28.setCell ⟨gb108, 0, none⟩ (.int .i64 ((rd_T71 l0_1 x13_1).f0))).setCell ⟨gb108, 1, none⟩ (.int .i64 ((rd_T71 l0_1 x13_1).f1))) w.heap.size (fun _ => True) u107000 x107000_1) := ⟨by (with_reducible repeat (first | apply Kd.R_alloc | apply Kd.R_drewN | apply Kd.R_drew)); exact Kd.R_mono (Kd.R_far (p := ⟨gb108, 1, none⟩) (Kd.R_far (p := ⟨gb108, 0, none⟩) (Kd.R_types HO_107000.out BK108.out (by decide)) (fun _ hk => hk.2) (.int .i64 ((rd_T71 l0_1 x13_1).f0))) (fun _ hk => hk.2) (.int .i64 ((rd_T71 l0_1 x13_1).f1))) (fun _ hk => trivial)⟩; have n1_ : Aside0 (((w28.setCell ⟨gb108, 0, none⟩ (.int .i64 ((rd_T71 l0_1 x13_1).f0))).setCell ⟨gb108, 1, none⟩ (.int .i64 ((rd_T71 l0_1 x13_1).f1))).heap[gb101]? = some (.cells #[.int .i64 a0_0, .slice (some ad107) l0_1.length c0_1] 30 (0, 0))) := ⟨Q12 NB101_108 BK101⟩; have n2_ : Aside0 (((w28.setCell ⟨gb108, 0, none⟩ (.int .i64 ((rd_T71 l0_1 x13_1).f0))).setCell ⟨gb108, 1, none⟩ (.int .i64 ((rd_T71 l0_1 x13_1).f1))).heap[gb102]? = some (.cells #[.slice none 0 0] 90 (0, 0))) := ⟨Q12 NB102_108 BK102⟩; have n3_ : Aside0 (((w28.setCell ⟨gb108, 0, none⟩ (.int .i64 ((rd_T71 l0_1 x13_1).f0))).setCell ⟨gb108, 1, none⟩ (.int .i64 ((rd_T71 l0_1 x13_1).f1))).heap[gb106]? = some (.cells #[u107000] 90 (0, 0))) := ⟨Q12 NB106_108 BK106⟩; have n4_ : Aside0 (((w28.setCell ⟨gb108, 0, none⟩ (.int .i64 ((rd_T71 l0_1 x13_1).f0))).setCell ⟨gb108, 1, none⟩ (.int .i64 ((rd_T71 l0_1 x13_1).f1))).heap[gb108]? = some (.cells #[.int .i64 ((rd_T71 l0_1 x13_1).f0), .int .i64 ((rd_T71 l0_1 x13_1).f1)] 71 (0, 0))) := ⟨by (with_reducible repeat (first | refine blk_drewN ?_ _ | refine blk_drew ?_ | refine blk_alloc ?_ _)); refine blk_put (cs := #[.int .i64 ((rd_T71 l0_1 x13_1).f0), .int .i64 0]) ?_ 1 _ rfl; (with_reducible repeat (first | refine blk_drewN ?_ _ | refine blk_drew ?_ | refine blk_alloc ?_ _)); refine blk_put (cs := #[.int .i64 0, .int .i64 0]) ?_ 0 _ rfl; (with_reducible repeat (first | refine blk_drewN ?_ _ | refine blk_drew ?_ | refine blk_alloc ?_ _)); exact BK108.out⟩; have n5_ : Aside0 (Below w.heap.size w ((w28.setCell ⟨gb108, 0, none⟩ (.int .i64 ((rd_T71 l0_1 x13_1).f0))).setCell ⟨gb108, 1, none⟩ (.int .i64 ((rd_T71 l0_1 x13_1).f1)))) := ⟨Q16 HB GE108⟩; (try clear HO_107000); (try clear BK101); (try clear BK102); (try clear BK106); (try clear BK108); (try clear HB); generalize ((w28.setCell ⟨gb108, 0, none⟩ (.int .i64 ((rd_T71 l0_1 x13_1).f0))).setCell ⟨gb108, 1, none⟩ (.int .i64 ((rd_T71 l0_1 x13_1).f1))) = w33 at n0_ n1_ n2_ n3_ n4_ n5_ ⊢; have HO_107000 := n0_; have BK101 := n1_; have BK102 := n2_; have BK106 := n3_; have BK108 := n4_; have HB := n5_; clear n0_ n1_ n2_ n3_ n4_ n5_; replace HO_107000 := am (Kd.R_drew HO_107000.out); replace BK101 := am (blk_drew BK101.out); replace BK102 := am (blk_drew BK102.out); replace BK106 := am (blk_drew BK106.out); replace BK108 := am (blk_drew BK108.out); replace HB := am (below_drew1 HB.out); obtain ⟨Ao35, co35, eo35⟩ := Kd.R_slice HO_107000.out
            (first | subst eo35 | (injection eo35 with f1_ f2_ f3_; have f4_ := f1_.symm; have f5_ := f3_.symm; clear f1_ f2_ f3_; subst f4_; subst f5_))
            have p109 : 0 ≤ (((rd_T71 l0_1 x13_1).f0) : Int) := of_decide_eq_true Q10; have q109 : ((rd_T71 l0_1 x13_1).f0) < (x107000_1.length : Int) := of_decide_eq_true Q10; obtain ⟨ad109, e109, hx109_0⟩ := Kd.at_int (Kd.R_reads' HO_107000.out).2.2 ((rd_T71 l0_1 x13_1).f0) p109 q109
            cases e109
            replace p109 := eq_true p109; replace q109 := eq_true q109; have p23 : 0 ≤ (((rd_T71 l0_1 x13_1).f0) : Int) := of_decide_eq_true Q10; have q23 : (((rd_T71 l0_1 x13_1).f0) : Int) < ((x107000_1.length : Int) : Int) := of_decide_eq_true Q10; obtain ⟨go23, co23, eo23, gb23, gl23, cl23, HG23⟩ := Kd.R_form HO_107000.out (by omega)
            (first | cases eo23 | (injection eo23 with ea_ en_ ec_; (first | subst ea_ | (injection ea_ with ea_; subst ea_)); subst ec_; clear en_))
            have GB23 := Aside0.mk gb23; have GG23 := Aside0.mk HG23; clear gb23 gl23 HG23
            (first | simp only [add_plain] at hx109_0 | skip)
            obtain ⟨hx23_0, hf23_0⟩ := Kd.R_celln 0 HO_107000.out (((rd_T71 l0_1 x13_1).f0) : Int) p23 q23; replace p23 := eq_true p23; replace q23 := eq_true q23; have HP36 := Kd.R_putn HO_107000.out (((rd_T71 l0_1 x13_1).f0) : Int) (Go.bits .or .i64 (rd x107000_1 ((rd_T71 l0_1 x13_1).f0)) (ji22)); rw [← Ny110.out] at HP36; have HQ36 := Aside0.mk HP36; clear HP36; refine start_ (n := 12) (S := fun w' => w'.cell? ⟨gb106, 0, none⟩ = some (.slice (some ⟨go23, 0, none⟩) x107000_1.length co35) ∧ w'.cell? ⟨gb108, 0, none⟩ = some (.int .i64 ((rd_T71 l0_1 x13_1).f0)) ∧ w'.cell? ⟨gb108, 1, none⟩ = some (.int .i64 ((rd_T71 l0_1 x13_1).f1)) ∧ w'.cell? ⟨go23, (((rd_T71 l0_1 x13_1).f0)).toNat, none⟩ = some (.int .i64 (rd x107000_1 ((rd_T71 l0_1 x13_1).f0)))) (ds := [11]) #[false, false, false, false, false, false, false, false, false, false, false, false] (by kernel_rfl) rfl rfl ⟨(blk_cell BK106.out 0).trans rfl, (blk_cell BK108.out 0).trans rfl, (blk_cell BK108.out 1).trans rfl, hx109_0⟩ (fun hHeld => ?_); refine with_tabW impl_netOf.tab5 impl_netOf.bits5 (fun HT_ HW_ => ?_); generalize w33.drew = w34 at HO_107000 BK101 BK102 BK106 BK108 HB GG23 HQ36 hf23_0 hx109_0 hx23_0 hHeld ⊢; refine pq 0 17 rfl rfl HT_ ?_; refine pq 2 19 rfl rfl HT_ ?_; refine pq 6 23 rfl rfl HT_ ?_; refine tq4 1 18 rfl rfl HT_ HW_ hHeld ?_; refine tq4 3 20 rfl rfl HT_ HW_ hHeld ?_; refine pq 4 21 rfl rfl HT_ ?_; refine tq4 5 22 rfl rfl HT_ HW_ hHeld ?_; refine tq4 7 24 rfl rfl HT_ HW_ hHeld ?_; refine pq 8 25 rfl rfl HT_ ?_; refine pq 9 26 rfl rfl HT_ ?_; refine pq 10 27 rfl rfl HT_ ?_; refine last_ (i := 11) (N := none) #[true, true, true, true, true, true, true, true, true, true, true, true] rfl rfl (one_of HT_.out (by kernel_rfl)) (by decide) (fun K hK => ?_); refine skip_ (w1 := ?_) (by rfl) rfl ?_ ?_
            rotate_left
            ·go_simp
             rfl
            refine hK.out _ _ ?_; clear hK K; refine done_ (done_of HT_.out (by kernel_rfl)) ?_
            try go_wp2
            have n0_ : Aside0 (Kd.R (Kd.int .i64) 3 (w34.setCell ⟨go23, (((rd_T71 l0_1 x13_1).f0) : Int).toNat, none⟩ (.int .i64 (Go.bits .or .i64 (rd x107000_1 ((rd_T71 l0_1 x13_1).f0)) (ji22)))) w.heap.size (fun _ => True) (.slice (some ⟨go23, 0, none⟩) x107000_1.length co35) y110) := ⟨by (with_reducible repeat (first | apply Kd.R_alloc | apply Kd.R_drewN | apply Kd.R_drew)); exact HQ36.out⟩; have n1_ : Aside0 ((w34.setCell ⟨go23, (((rd_T71 l0_1 x13_1).f0) : Int).toNat, none⟩ (.int .i64 (Go.bits .or .i64 (rd x107000_1 ((rd_T71 l0_1 x13_1).f0)) (ji22)))).heap[gb101]? = some (.cells #[.int .i64 a0_0, .slice (some ad107) l0_1.length c0_1] 30 (0, 0))) := ⟨Q28 BK101⟩; have n2_ : Aside0 ((w34.setCell ⟨go23, (((rd_T71 l0_1 x13_1).f0) : Int).toNat, none⟩ (.int .i64 (Go.bits .or .i64 (rd x107000_1 ((rd_T71 l0_1 x13_1).f0)) (ji22)))).heap[gb102]? = some (.cells #[.slice none 0 0] 90 (0, 0))) := ⟨Q28 BK102⟩; have n3_ : Aside0 ((w34.setCell ⟨go23, (((rd_T71 l0_1 x13_1).f0) : Int).toNat, none⟩ (.int .i64 (Go.bits .or .i64 (rd x107000_1 ((rd_T71 l0_1 x13_1).f0)) (ji22)))).heap[gb106]? = some (.cells #[.slice (some ⟨go23, 0, none⟩) x107000_1.length co35] 90 (0, 0))) := ⟨Q28 BK106⟩; have n4_ : Aside0 ((w34.setCell ⟨go23, (((rd_T71 l0_1 x13_1).f0) : Int).toNat, none⟩ (.int .i64 (Go.bits .or .i64 (rd x107000_1 ((rd_T71 l0_1 x13_1).f0)) (ji22)))).heap[gb108]? = some (.cells #[.int .i64 ((rd_T71 l0_1 x13_1).f0), .int .i64 ((rd_T71 l0_1 x13_1).f1)] 71 (0, 0))) := ⟨Q28 BK108⟩; have n5_ : Aside0 (Below w.heap.size w (w34.setCell ⟨go23, (((rd_T71 l0_1 x13_1).f0) : Int).toNat, none⟩ (.int .i64 (Go.bits .or .i64 (rd x107000_1 ((rd_T71 l0_1 x13_1).f0)) (ji22))))) := ⟨by repeat (first | (with_reducible first | exact HB.out | apply below_alloc | apply pw_below_drewN | apply below_drew1 | refine below_set ?_ GB23.out) | exact HB.out)⟩; (try clear HO_107000); (try clear BK101); (try clear BK102); (try clear BK106); (try clear BK108); (try clear HB); generalize (w34.setCell ⟨go23, (((rd_T71 l0_1 x13_1).f0) : Int).toNat, none⟩ (.int .i64 (Go.bits .or .i64 (rd x107000_1 ((rd_T71 l0_1 x13_1).f0)) (ji22)))) = w37 at n0_ n1_ n2_ n3_ n4_ n5_ ⊢; have HO_107000 := n0_; have BK101 := n1_; have BK102 := n2_; have BK106 := n3_; have BK108 := n4_; have HB := n5_; clear n0_ n1_ n2_ n3_ n4_ n5_; replace HO_107000 := am (Kd.R_drew HO_107000.out); replace BK101 := am (blk_drew BK101.out); replace BK102 := am (blk_drew BK102.out); replace BK106 := am (blk_drew BK106.out); replace BK108 := am (blk_drew BK108.out); replace HB := am (below_drew1 HB.out); have p111 : 0 ≤ (((rd_T71 l0_1 x13_1).f1) : Int) := of_decide_eq_true Q10; have q111 : ((rd_T71 l0_1 x13_1).f1) < (y110.length : Int) := (by have h_ : (((rd_T71 l0_1 x13_1).f1) : Int) < ((x107000_1.length : Int) : Int) := of_decide_eq_true Q10; first | (have e_ := (Kd.R_reads' HO_107000.out).1; omega) | simpa only [Ny110.out, List.length_set] using h_); have ql111 : ((((rd_T71 l0_1 x13_1).f1) : Int) < ((x107000_1.length : Int) : Int)) = True := eq_true (of_decide_eq_true Q10); obtain ⟨ad111, e111, hx111_0⟩ := Kd.at_int (Kd.R_reads' HO_107000.out).2.2 ((rd_T71 l0_1 x13_1).f1) p111 q111; obtain rfl : (⟨go23, 0, none⟩ : Addr) = ad111 := (by injection e111)
            (first | simp only [add_plain] at hx111_0 | simp only [add_at] at hx111_0 | simp only [Addr.add, Nat.zero_add] at hx111_0 | skip)
            replace p111 := eq_true p111; replace q111 := eq_true q111; have p27 : 0 ≤ (((rd_T71 l0_1 x13_1).f1) : Int) := of_decide_eq_true Q10; have q27 : (((rd_T71 l0_1 x13_1).f1) : Int) < ((x107000_1.length : Int) : Int) := of_decide_eq_true Q10; obtain ⟨hx27_0, hf27_0⟩ := Kd.R_celln 0 HO_107000.out (((rd_T71 l0_1 x13_1).f1) : Int) p27 q27; replace p27 := eq_true p27; replace q27 := eq_true q27; have HP39 := Kd.R_putn HO_107000.out (((rd_T71 l0_1 x13_1).f1) : Int) (Go.bits .or .i64 (rd y110 ((rd_T71 l0_1 x13_1).f1)) (ji26)); rw [← Ny112.out] at HP39; have HQ39 := Aside0.mk HP39; clear HP39; refine start_ (n := 12) (S := fun w' => w'.cell? ⟨gb106, 0, none⟩ = some (.slice (some ⟨go23, 0, none⟩) x107000_1.length co35) ∧ w'.cell? ⟨gb108, 0, none⟩ = some (.int .i64 ((rd_T71 l0_1 x13_1).f0)) ∧ w'.cell? ⟨gb108, 1, none⟩ = some (.int .i64 ((rd_T71 l0_1 x13_1).f1)) ∧ w'.cell? ⟨go23, (((rd_T71 l0_1 x13_1).f1)).toNat, none⟩ = some (.int .i64 (rd y110 ((rd_T71 l0_1 x13_1).f1)))) (ds := [11]) #[false, false, false, false, false, false, false, false, false, false, false, false] (by kernel_rfl) rfl rfl ⟨(blk_cell BK106.out 0).trans rfl, (blk_cell BK108.out 0).trans rfl, (blk_cell BK108.out 1).trans rfl, hx111_0⟩ (fun hHeld => ?_); refine with_tabW impl_netOf.tab6 impl_netOf.bits6 (fun HT_ HW_ => ?_); generalize w37.drew = w38 at HO_107000 BK101 BK102 BK106 BK108 HB HQ36 HQ39 hf27_0 hx111_0 hx27_0 hHeld ⊢; refine pq 0 28 rfl rfl HT_ ?_; refine pq 2 30 rfl rfl HT_ ?_; refine pq 6 34 rfl rfl HT_ ?_; refine tq4 1 29 rfl rfl HT_ HW_ hHeld ?_; refine tq4 3 31 rfl rfl HT_ HW_ hHeld ?_; refine pq 4 32 rfl rfl HT_ ?_; refine tq4 5 33 rfl rfl HT_ HW_ hHeld ?_; refine tq4 7 35 rfl rfl HT_ HW_ hHeld ?_; refine pq 8 36 rfl rfl HT_ ?_; refine pq 9 37 rfl rfl HT_ ?_; refine pq 10 38 rfl rfl HT_ ?_; refine last_ (i := 11) (N := none) #[true, true, true, true, true, true, true, true, true, true, true, true] rfl rfl (one_of HT_.out (by kernel_rfl)) (by decide) (fun K hK => ?_); refine skip_ (w1 := ?_) (by rfl) rfl ?_ ?_
            rotate_left
            ·go_simp
             rfl
            refine hK.out _ _ ?_; clear hK K; refine done_ (done_of HT_.out (by kernel_rfl)) ?_
            try go_wp2
            go_roundg k1
            case measure => have := HK1.out; omega
            case rel => exact ⟨(wrap64 (x13_1 + 1)), (y112), (.slice (some ⟨go23, 0, none⟩) x107000_1.length co35), Q13, H', ⟨Q44⟩, ⟨by (with_reducible repeat (first | apply Kd.R_alloc | apply Kd.R_drewN | apply Kd.R_drew)); exact HQ39.out⟩, ⟨Q28 BK101⟩, ⟨Q28 BK102⟩, ⟨Q28 BK106⟩, ⟨by repeat (first | (with_reducible first | exact HB.out | apply below_alloc | apply pw_below_drewN | apply below_drew1 | refine below_set ?_ GB23.out) | exact HB.out)⟩⟩
           ·rw [if_neg c24] at H
            exact absurd H (by simp)
          ·rw [if_neg c21] at H
           exact absurd H (by simp)
         ·rw [if_neg c20] at H
          exact absurd H (by simp)
        ·rw [if_neg c19] at H
         exact absurd H (by simp)
       ·rw [if_neg c18] at H
        exact absurd H (by simp)
      ·rw [if_neg c17] at H
       exact absurd H (by simp)
     ·rw [if_neg c16] at H
      have c16b0 := decide_eq_false c16; clear c16; obtain rfl := Option.some.inj H; have hnb40 := NB106_101.out; have hnc40 := NB101_106.out; have hnb41 := NB106_102.out; have hnc41 := NB102_106.out; have hcz42_0 : wr.cell? ⟨gb106, 0, none⟩ = some (u107000) := (blk_cell BK106.out 0).trans rfl; have hfz42_0 := blk_frozen BK106.out 0; obtain ⟨Ao43, co43, eo43⟩ := Kd.R_slice HO_107000.out; subst eo43; have hnb44 := NB102_101.out; have hnc44 := NB101_102.out; have hcz45_0 : wr.cell? ⟨gb102, 0, none⟩ = some (.slice none 0 0) := (blk_cell BK102.out 0).trans rfl; have hfz45_0 := blk_frozen BK102.out 0
      go_wp2
      refine bodyPost_ret (results_cell_row rfl _ _ gb102 90 #[.slice Ao43 x107000_1.length co43] (0, 0) _ rfl (Q63 BK102) Try.underlying90 rfl (by kernel_rfl)) rfl ?_; exact ⟨_, Q11, by (with_reducible repeat (first | apply Kd.R_alloc | apply Kd.R_drewN | apply Kd.R_drew)); exact Kd.R_mono (Kd.R_far (p := ⟨gb102, 0, none⟩) (Kd.R_types HO_107000.out BK102.out (by decide)) (fun _ hk => hk.2) (.slice Ao43 x107000_1.length co43)) (fun _ hk => trivial), Q16 HB GE102⟩
  ·rw [if_neg c3] at H
   exact absurd H (by simp)
 ·rw [if_neg c2] at H
  exact absurd H (by simp)
/-! ### impl_setOf: function 122 -/
def impl_setOf.l0 : Nat → Int → List Int → Int → Option (List Int)
 | 0, _, _, _ => none
 | k + 1, x0, x3, x4 => if 0 ≤ x4 then (if (shr .i64 x0 x4) = 0 then (some x3) else (if (Go.bits .and .i64 (shr .i64 x0 x4) 1) = 1 then (if x3.length < 17592186044416 then (impl_setOf.l0 k x0 (x3 ++ [x4]) (wrap64 (x4 + 1))) else (none)) else (impl_setOf.l0 k x0 x3 (wrap64 (x4 + 1))))) else (none)
def impl_setOf.f (k : Nat) (a0 : Int) : Option (List Int) := impl_setOf.l0 k a0 ([] : List Int) 0
theorem impl_setOf.mono_l : ∀ k, (∀ y0 y1 y2, LeO (impl_setOf.l0 k y0 y1 y2) (impl_setOf.l0 (k + 1) y0 y1 y2))
 | 0 => fun _ _ _ r h => by simp [impl_setOf.l0] at h
 | k + 1 => by
  have ih0 := impl_setOf.mono_l k
  all_goals
   intros
   first | unfold impl_setOf.l0
   repeat' first | (with_reducible first | exact ih0 _ _ _ | exact LeO.refl _ | exact LeO.none _ | refine LeO.ite ?_ ?_ | refine LeO.bind ?_ (fun _ => ?_))
theorem impl_setOf.mono : ∀ a0 k, LeO (impl_setOf.f k a0) (impl_setOf.f (k + 1) a0) := by
 intro a0 k
 have ih0 := impl_setOf.mono_l k
 unfold impl_setOf.f
 repeat' first | (with_reducible first | exact ih0 _ _ _ | exact LeO.refl _ | exact LeO.none _ | refine LeO.ite ?_ ?_ | refine LeO.bind ?_ (fun _ => ?_))
set_option maxHeartbeats 8000000 in
set_option maxRecDepth 100000 in
theorem impl_setOf.calls (k : Nat) (a0 : Int) (r : List Int) (w : World) (h : impl_setOf.f k a0 = some r) :
  Calls Try.prog 122 #[.int .i64 a0] w fun e w' => ∃ v0_ : Value, e = .returned (v0_) ∧ Kd.R (Kd.int .i64) 3 w' w.heap.size (fun _ => True) v0_ r ∧ Below w.heap.size w w' := by
 have HB := am (Below.refl w.heap.size w)
 have H : (impl_setOf.l0 k a0 ([] : List Int) 0) = some r := h
 clear h
 have H' := Aside0.mk H
 clear H
 go_enter Try.func122, Try.ntmps122
 go_wp2
 go_loopg [3, 4] k (fun kq v3 v4 w' => ∃ (x3_1 : List Int) (x4_1 : Int), v4 = .int .i64 x4_1 ∧ Aside0 (impl_setOf.l0 kq a0 x3_1 x4_1 = some r) ∧ Aside0 (kq ≤ k) ∧ Aside0 (Kd.R (Kd.int .i64) 3 w' w.heap.size (fun _ => True) v3 x3_1) ∧ Aside0 (Below w.heap.size w w'))
 case atStart => exact ⟨(([] : List Int)), (0), Q13, H', ⟨Nat.le_refl _⟩, ⟨Q49⟩, ⟨Q0 HB⟩⟩
 case round =>
  clear H'
  try clear c1
  obtain ⟨x3_1, x4_1, rfl, HA, HK1, HO_3, HB⟩ := hrel
  cases gk with
  | zero => exact absurd HA.out (by simp [impl_setOf.l0])
  | succ k1 =>
   have H := HA.out; clear HA
   simp only [impl_setOf.l0] at H
   by_cases c2 : 0 ≤ x4_1
   ·rw [if_pos c2] at H
    have c2b0 := eq_true c2; have c2b1 : decide (0 ≤ x4_1) = true := decide_eq_true c2; clear c2; obtain ⟨ji3, hji3⟩ : ∃ j_ : Int, (shr .i64 a0 x4_1) = j_ := ⟨_, rfl⟩; replace H : (if (ji3) = 0 then (some x3_1) else (if (Go.bits .and .i64 (ji3) 1) = 1 then (if x3_1.length < 17592186044416 then (impl_setOf.l0 k1 a0 (x3_1 ++ [x4_1]) (wrap64 (x4_1 + 1))) else (none)) else (impl_setOf.l0 k1 a0 x3_1 (wrap64 (x4_1 + 1))))) = some r := by first | (rw [hji3] at H; exact H) | (simp only [hji3] at H ⊢; exact H)
    have hji3_ : (a0 / 2 ^ min x4_1.toNat 64) = ji3 := hji3; have hji3z : x4_1 ≤ 64 → (a0 / 2 ^ x4_1.toNat) = ji3 := shr_small hji3
    by_cases c4 : (ji3) = 0
    ·rw [if_pos c4] at H
     have c4b0 := beq_iff_eq.mpr c4; have c4b1 := bne_eq_false_iff_eq.mpr c4; clear c4; obtain rfl := Option.some.inj H
     go_wp2
     go_ret
     exact ⟨_, Q99, Q94, Q0 HB⟩
    ·rw [if_neg c4] at H
     have c4b0 := beq_eq_false_iff_ne.mpr c4; have c4b1 := bne_iff_ne.mpr c4; have c5b0 := eq_true (of_decide_eq_true Q10 : 0 ≤ x4_1)
     by_cases c6 : (Go.bits .and .i64 (ji3) 1) = 1
     ·rw [if_pos c6] at H
      have c6b0 := beq_iff_eq.mpr c6; have c6b1 := bne_eq_false_iff_eq.mpr c6; clear c6
      by_cases c7 : x3_1.length < 17592186044416
      ·rw [if_pos c7] at H
       have LMc7 := Aside0.mk c7; clear c7; obtain ⟨y101, hy101⟩ : ∃ y_ : List Int, y_ = (x3_1 ++ [x4_1]) := ⟨_, rfl⟩; replace H : (impl_setOf.l0 k1 a0 y101 (wrap64 (x4_1 + 1))) = some r := RH hy101 H; have Ny101 := Aside0.mk hy101; clear hy101; have H' := Aside0.mk H; clear H
       go_wp2_with (first | ((with_reducible refine gate_builtin (b := .append) (xs := #[.tmp 16, .tmp 18]) rfl ?_); at_builtin; refine Kd.R_append (Kd.int .i64) (w0 := w) w.heap.size rfl (.tmp 16) (.tmp 18) 25 3 (.int .i64 0) 8 rfl Try.underlying25 info3 rfl (by decide) (by omega) u3 x3_1 x4_1 [.int .i64 x4_1] (fun _ => True) (fun _ => False) rfl rfl ?aP (fun _ hk => hk.elim) ?aF ?aO ?aB ?aS ?aL ?_; (case aP => exact rfl); (case aB => exact (Q0 HB)); (case aF => exact (fun _ _ => trivial)); (case aO => exact Q94); (case aS => exact (below_size (Q0 HB))); (case aL => have := LMc7.out; omega); intro v102 w8 ho hb hg hat; rw [← Ny101.out] at ho; replace HB := am (hb); have HO103 := am (ho); clear HO_3; clear ho hb hg hat))
       go_roundg k1
       case measure => have := HK1.out; omega
       case rel => exact ⟨(y101), (wrap64 (x4_1 + 1)), Q13, H', ⟨Q44⟩, ⟨Q2 HO103⟩, ⟨Q0 HB⟩⟩
      ·rw [if_neg c7] at H
       exact absurd H (by simp)
     ·rw [if_neg c6] at H
      have c6b0 := beq_eq_false_iff_ne.mpr c6; have c6b1 := bne_iff_ne.mpr c6; have H' := Aside0.mk H; clear H
      go_wp2
      go_roundg k1
      case measure => have := HK1.out; omega
      case rel => exact ⟨(x3_1), (wrap64 (x4_1 + 1)), Q13, H', ⟨Q44⟩, ⟨Q94⟩, ⟨Q0 HB⟩⟩
   ·rw [if_neg c2] at H
    exact absurd H (by simp)
/-! ### impl_net_closed: function 177 -/
def impl_net_closed.f (l0_0 : List Int) (a1 : Int) : Option (Int) := if 0 ≤ a1 then (if a1 < (l0_0.length : Int) then (some (Go.bits .or .i64 (rd l0_0 a1) (shl .i64 1 a1))) else (none)) else (none)
set_option maxHeartbeats 8000000 in
set_option maxRecDepth 100000 in
theorem impl_net_closed.calls (A0_0 : Option Addr) (c0_0 : Nat) (l0_0 : List Int) (a1 : Int) (r : Int) (w : World) (hr0_0 : Kd.C (Kd.int .i64) w A0_0 l0_0.length l0_0) (hc0_0 : l0_0.length ≤ c0_0) (h : impl_net_closed.f l0_0 a1 = some r) :
  Calls Try.prog 177 #[.agg #[.slice A0_0 l0_0.length c0_0], .int .i64 a1] w fun e w' => e = .returned (.int .i64 r) ∧ Below w.heap.size w w' := by
 have hu90 := Try.underlying90
 have HR0_0 := Aside0.mk hr0_0
 have HC0_0 := Aside0.mk hc0_0
 clear hr0_0 hc0_0
 have HB := am (Below.refl w.heap.size w)
 have H : (if 0 ≤ a1 then (if a1 < (l0_0.length : Int) then (some (Go.bits .or .i64 (rd l0_0 a1) (shl .i64 1 a1))) else (none)) else (none)) = some r := h
 clear h
 by_cases c3 : 0 ≤ a1
 ·rw [if_pos c3] at H
  have c3b0 : decide (0 ≤ a1) = true := decide_eq_true c3; clear c3
  by_cases c4 : a1 < (l0_0.length : Int)
  ·rw [if_pos c4] at H
   have c4b0 : decide (a1 < (l0_0.length : Int)) = true := decide_eq_true c4; clear c4; have c5b0 := eq_true (of_decide_eq_true Q10 : 0 ≤ a1); obtain ⟨ji6, hji6⟩ : ∃ j_ : Int, (shl .i64 1 a1) = j_ := ⟨_, rfl⟩; replace H : (some (Go.bits .or .i64 (rd l0_0 a1) (ji6))) = some r := by first | (rw [hji6] at H; exact H) | (simp only [hji6] at H ⊢; exact H)
   have hji6_ : (IntKind.i64.wrap (1 * 2 ^ min a1.toNat 64)) = ji6 := hji6; have hji6z : a1 ≤ 64 → (IntKind.i64.wrap (1 * 2 ^ a1.toNat)) = ji6 := shl_small hji6; have hji6u : (IntKind.i64.wrap (2 ^ min a1.toNat 64)) = ji6 := by have h_ := hji6_; rw [Int.one_mul] at h_; exact h_
   have hji6v : a1 ≤ 64 → (IntKind.i64.wrap (2 ^ a1.toNat)) = ji6 := fun hle_ => by have h_ := hji6z hle_; rw [Int.one_mul] at h_; exact h_
   have hji6y : (wrap64 (1 * 2 ^ min a1.toNat 64)) = ji6 := (i64_w _).symm.trans hji6_; have hji6x : a1 ≤ 64 → (wrap64 (1 * 2 ^ a1.toNat)) = ji6 := fun h_ => (i64_w _).symm.trans (hji6z h_)
   obtain rfl := Option.some.inj H
   go_enter Try.func177, Try.ntmps177
   go_wp2_with (first | ((with_reducible refine gate_dst (N := 2) rfl ?_); refine box_event ?hg (N := 2) ?hd (cs := #[.slice A0_0 l0_0.length c0_0]) (t := 90) ?hr ?_; (case hd => rfl); (case hg => rfl); (case hr => first | (go_simp; done) | (go_simp; rfl)); intro gb101 hg w7 hbox hb; have BK101 := am (hbox); have GW101 := am ((Q25 : w.heap.size ≤ gb101)); have GE101 := am ((Q25 : w.heap.size ≤ gb101)); replace HB := am (below_step (Q0 HB) hb); clear hb hbox hg; have hcz8_0 : w7.cell? ⟨gb101, 0, none⟩ = some (.slice A0_0 l0_0.length c0_0) := (blk_cell BK101.out 0).trans rfl; have hfz8_0 := blk_frozen BK101.out 0; have p102 : 0 ≤ (a1 : Int) := of_decide_eq_true Q10; have q102 : a1 < (l0_0.length : Int) := of_decide_eq_true Q10; obtain ⟨ad102, e102, hx102_0⟩ := Kd.at_int HR0_0.out a1 p102 q102; cases e102; replace hx102_0 := (HB.out.cell (World.block_lt_of_cell? w _ hx102_0)).trans hx102_0; replace p102 := eq_true p102; replace q102 := eq_true q102))
   repeat (go_quiet (first | ((with_reducible refine gate_dst (N := 2) rfl ?_); refine box_event ?hg (N := 2) ?hd (cs := #[.slice A0_0 l0_0.length c0_0]) (t := 90) ?hr ?_; (case hd => rfl); (case hg => rfl); (case hr => first | (go_simp; done) | (go_simp; rfl)); intro gb101 hg w7 hbox hb; have n0_ := am (below_step (Q0 HB) hb); have n1_ := am (hbox); have n2_ := am ((Q25 : w.heap.size ≤ gb101)); have n3_ := am ((Q25 : w.heap.size ≤ gb101)); replace HB := n0_; have BK101 := n1_; have GW101 := n2_; have GE101 := n3_; clear n0_ n1_ n2_ n3_; clear hb hbox hg; have hcz8_0 : w7.cell? ⟨gb101, 0, none⟩ = some (.slice A0_0 l0_0.length c0_0) := (blk_cell BK101.out 0).trans rfl; have hfz8_0 := blk_frozen BK101.out 0; have p102 : 0 ≤ (a1 : Int) := of_decide_eq_true Q10; have q102 : a1 < (l0_0.length : Int) := of_decide_eq_true Q10; obtain ⟨ad102, e102, hx102_0⟩ := Kd.at_int HR0_0.out a1 p102 q102; cases e102; replace hx102_0 := (HB.out.cell (World.block_lt_of_cell? w _ hx102_0)).trans hx102_0; replace p102 := eq_true p102; replace q102 := eq_true q102)); try go_wp2_with (first | ((with_reducible refine gate_dst (N := 2) rfl ?_); refine box_event ?hg (N := 2) ?hd (cs := #[.slice A0_0 l0_0.length c0_0]) (t := 90) ?hr ?_; (case hd => rfl); (case hg => rfl); (case hr => first | (go_simp; done) | (go_simp; rfl)); intro gb101 hg w7 hbox hb; have BK101 := am (hbox); have GW101 := am ((Q25 : w.heap.size ≤ gb101)); have GE101 := am ((Q25 : w.heap.size ≤ gb101)); replace HB := am (below_step (Q0 HB) hb); clear hb hbox hg; have hcz8_0 : w7.cell? ⟨gb101, 0, none⟩ = some (.slice A0_0 l0_0.length c0_0) := (blk_cell BK101.out 0).trans rfl; have hfz8_0 := blk_frozen BK101.out 0; have p102 : 0 ≤ (a1 : Int) := of_decide_eq_true Q10; have q102 : a1 < (l0_0.length : Int) := of_decide_eq_true Q10; obtain ⟨ad102, e102, hx102_0⟩ := Kd.at_int HR0_0.out a1 p102 q102; cases e102; replace hx102_0 := (HB.out.cell (World.block_lt_of_cell? w _ hx102_0)).trans hx102_0; replace p102 := eq_true p102; replace q102 := eq_true q102)))
   go_ret
   exact ⟨by first | rfl | (simp [errW_none, errW_some] <;> rfl) | (simp only [← hji6]; first | rfl | (simp [errW_none, errW_some] <;> rfl)) | (simp [*, errW_none, errW_some] <;> rfl), Q0 HB⟩
  ·rw [if_neg c4] at H
   exact absurd H (by simp)
 ·rw [if_neg c3] at H
  exact absurd H (by simp)
/-! ### impl_maskOf: function 146 -/
def impl_maskOf.l0 : Nat → Int → List Int → Int → Int → Option (Int)
 | 0, _, _, _, _ => none
 | k + 1, x3, x6, x7, x8 => if x8 < x7 then (if 0 ≤ x8 then (if x8 < (x6.length : Int) then (if 0 ≤ (rd x6 x8) then (impl_maskOf.l0 k (Go.bits .or .i64 x3 (shl .i64 1 (rd x6 x8))) x6 x7 (wrap64 (x8 + 1))) else (none)) else (none)) else (none)) else (some x3)
def impl_maskOf.f (k : Nat) (l0 : List Int) : Option (Int) := impl_maskOf.l0 k 0 l0 (l0.length : Int) 0
theorem impl_maskOf.mono_l : ∀ k, (∀ y0 y1 y2 y3, LeO (impl_maskOf.l0 k y0 y1 y2 y3) (impl_maskOf.l0 (k + 1) y0 y1 y2 y3))
 | 0 => fun _ _ _ _ r h => by simp [impl_maskOf.l0] at h
 | k + 1 => by
  have ih0 := impl_maskOf.mono_l k
  all_goals
   intros
   first | unfold impl_maskOf.l0
   repeat' first | (with_reducible first | exact ih0 _ _ _ _ | exact LeO.refl _ | exact LeO.none _ | refine LeO.ite ?_ ?_ | refine LeO.bind ?_ (fun _ => ?_))
theorem impl_maskOf.mono : ∀ a0 k, LeO (impl_maskOf.f k a0) (impl_maskOf.f (k + 1) a0) := by
 intro a0 k
 have ih0 := impl_maskOf.mono_l k
 unfold impl_maskOf.f
 repeat' first | (with_reducible first | exact ih0 _ _ _ _ | exact LeO.refl _ | exact LeO.none _ | refine LeO.ite ?_ ?_ | refine LeO.bind ?_ (fun _ => ?_))
set_option maxHeartbeats 8000000 in
set_option maxRecDepth 100000 in
theorem impl_maskOf.calls (k : Nat) (A0 : Option Addr) (c0 : Nat) (l0 : List Int) (r : Int) (w : World) (hr0 : Kd.C (Kd.int .i64) w A0 l0.length l0) (hc0 : l0.length ≤ c0) (h : impl_maskOf.f k l0 = some r) :
  Calls Try.prog 146 #[.slice A0 l0.length c0] w fun e w' => e = .returned (.int .i64 r) ∧ Drawn0 w w' := by
 have HR0 := Aside0.mk hr0
 have HC0 := Aside0.mk hc0
 clear hr0 hc0
 have H : (impl_maskOf.l0 k 0 l0 (l0.length : Int) 0) = some r := h
 clear h
 have H' := Aside0.mk H
 clear H
 go_enter Try.func146, Try.ntmps146
 go_wp2
 go_loopg [3, 8] k (fun kq v3 v8 w' => ∃ (x3_1 : Int) (x8_1 : Int), v3 = .int .i64 x3_1 ∧ v8 = .int .i64 x8_1 ∧ Aside0 (impl_maskOf.l0 kq x3_1 l0 (l0.length : Int) x8_1 = some r) ∧ Aside0 (kq ≤ k) ∧ Drawn0 w w')
 case atStart => exact ⟨(0), (0), Q13, Q13, H', ⟨Nat.le_refl _⟩, Q20⟩
 case round =>
  clear H'
  try clear c1
  obtain ⟨x3_1, x8_1, rfl, rfl, HA, HK1, ⟨m1, rfl⟩⟩ := hrel
  cases gk with
  | zero => exact absurd HA.out (by simp [impl_maskOf.l0])
  | succ k1 =>
   have H := HA.out; clear HA
   simp only [impl_maskOf.l0] at H
   by_cases c2 : x8_1 < (l0.length : Int)
   ·rw [if_pos c2] at H
    have c2b0 : decide (x8_1 < (l0.length : Int)) = true := decide_eq_true c2; clear c2
    by_cases c3 : 0 ≤ x8_1
    ·rw [if_pos c3] at H
     have c3b0 : decide (0 ≤ x8_1) = true := decide_eq_true c3; clear c3
     by_cases c4 : x8_1 < (l0.length : Int)
     ·rw [if_pos c4] at H
      have c4b0 : decide (x8_1 < (l0.length : Int)) = true := decide_eq_true c4; clear c4
      by_cases c5 : 0 ≤ (rd l0 x8_1)
      ·rw [if_pos c5] at H
       have c5b0 := eq_true c5; have c5b1 := decide_eq_true c5; clear c5; obtain ⟨ji6, hji6⟩ : ∃ j_ : Int, (shl .i64 1 (rd l0 x8_1)) = j_ := ⟨_, rfl⟩; replace H : (impl_maskOf.l0 k1 (Go.bits .or .i64 x3_1 (ji6)) l0 (l0.length : Int) (wrap64 (x8_1 + 1))) = some r := by first | (rw [hji6] at H; exact H) | (simp only [hji6] at H ⊢; exact H)
       have hji6_ : (IntKind.i64.wrap (1 * 2 ^ min (rd l0 x8_1).toNat 64)) = ji6 := hji6; have hji6z : (rd l0 x8_1) ≤ 64 → (IntKind.i64.wrap (1 * 2 ^ (rd l0 x8_1).toNat)) = ji6 := shl_small hji6; have hji6u : (IntKind.i64.wrap (2 ^ min (rd l0 x8_1).toNat 64)) = ji6 := by have h_ := hji6_; rw [Int.one_mul] at h_; exact h_
       have hji6v : (rd l0 x8_1) ≤ 64 → (IntKind.i64.wrap (2 ^ (rd l0 x8_1).toNat)) = ji6 := fun hle_ => by have h_ := hji6z hle_; rw [Int.one_mul] at h_; exact h_
       have hji6y : (wrap64 (1 * 2 ^ min (rd l0 x8_1).toNat 64)) = ji6 := (i64_w _).symm.trans hji6_; have hji6x : (rd l0 x8_1) ≤ 64 → (wrap64 (1 * 2 ^ (rd l0 x8_1).toNat)) = ji6 := fun h_ => (i64_w _).symm.trans (hji6z h_)
       have H' := Aside0.mk H; clear H; have p101 : 0 ≤ (x8_1 : Int) := of_decide_eq_true Q10; have q101 : x8_1 < (l0.length : Int) := of_decide_eq_true Q10; obtain ⟨ad101, e101, hx101_0⟩ := Kd.at_int HR0.out x8_1 p101 q101
       cases e101
       replace p101 := eq_true p101; replace q101 := eq_true q101
       go_wp2
       go_roundg k1
       case measure => have := HK1.out; omega
       case rel => exact ⟨(Go.bits .or .i64 x3_1 (ji6)), (wrap64 (x8_1 + 1)), (by first | rfl | (simp; done) | (simp only [← hji6] <;> (first | rfl | simp)) | (simp [*]; done)), Q13, H', ⟨Q44⟩, Q20⟩
      ·rw [if_neg c5] at H
       exact absurd H (by simp)
     ·rw [if_neg c4] at H
      exact absurd H (by simp)
    ·rw [if_neg c3] at H
     exact absurd H (by simp)
   ·rw [if_neg c2] at H
    have c2b0 : decide (x8_1 < (l0.length : Int)) = false := decide_eq_false c2; clear c2; obtain rfl := Option.some.inj H
    go_wp2
    go_ret
    exact ⟨Q13, Q20⟩
/-! ### impl_net_all: function 117 -/
def impl_net_all.f (l0_0 : List Int) : Option (Int) := some (wrap64 ((shl .i64 1 (l0_0.length : Int)) - 1))
set_option maxHeartbeats 8000000 in
set_option maxRecDepth 100000 in
theorem impl_net_all.calls (A0_0 : Option Addr) (c0_0 : Nat) (l0_0 : List Int) (r : Int) (w : World) (hr0_0 : Kd.C (Kd.int .i64) w A0_0 l0_0.length l0_0) (hc0_0 : l0_0.length ≤ c0_0) (h : impl_net_all.f l0_0 = some r) :
  Calls Try.prog 117 #[.agg #[.slice A0_0 l0_0.length c0_0]] w fun e w' => e = .returned (.int .i64 r) ∧ Below w.heap.size w w' := by
 have hu90 := Try.underlying90
 have HR0_0 := Aside0.mk hr0_0
 have HC0_0 := Aside0.mk hc0_0
 clear hr0_0 hc0_0
 have HB := am (Below.refl w.heap.size w)
 have H : (some (wrap64 ((shl .i64 1 (l0_0.length : Int)) - 1))) = some r := h
 clear h
 obtain ⟨ji2, hji2⟩ : ∃ j_ : Int, (shl .i64 1 (l0_0.length : Int)) = j_ := ⟨_, rfl⟩
 replace H : (some (wrap64 ((ji2) - 1))) = some r := by first | (rw [hji2] at H; exact H) | (simp only [hji2] at H ⊢; exact H)
 have hji2_ : (IntKind.i64.wrap (1 * 2 ^ min (l0_0.length : Int).toNat 64)) = ji2 := hji2
 have hji2z : (l0_0.length : Int) ≤ 64 → (IntKind.i64.wrap (1 * 2 ^ (l0_0.length : Int).toNat)) = ji2 := shl_small hji2
 have hji2p : (IntKind.i64.wrap (1 * 2 ^ min l0_0.length 64)) = ji2 := hji2_
 have hji2q : (l0_0.length : Int) ≤ 64 → (IntKind.i64.wrap (1 * 2 ^ l0_0.length)) = ji2 := hji2z
 have hji2r : (IntKind.i64.wrap (2 ^ min l0_0.length 64)) = ji2 := by have h_ := hji2p; rw [Int.one_mul] at h_; exact h_
 have hji2s : (l0_0.length : Int) ≤ 64 → (IntKind.i64.wrap (2 ^ l0_0.length)) = ji2 := fun hle_ => by have h_ := hji2q hle_; rw [Int.one_mul] at h_; exact h_
 have hji2u : (IntKind.i64.wrap (2 ^ min (l0_0.length : Int).toNat 64)) = ji2 := by have h_ := hji2_; rw [Int.one_mul] at h_; exact h_
 have hji2v : (l0_0.length : Int) ≤ 64 → (IntKind.i64.wrap (2 ^ (l0_0.length : Int).toNat)) = ji2 := fun hle_ => by have h_ := hji2z hle_; rw [Int.one_mul] at h_; exact h_
 have hji2y : (wrap64 (1 * 2 ^ min (l0_0.length : Int).toNat 64)) = ji2 := (i64_w _).symm.trans hji2_
 have hji2x : (l0_0.length : Int) ≤ 64 → (wrap64 (1 * 2 ^ (l0_0.length : Int).toNat)) = ji2 := fun h_ => (i64_w _).symm.trans (hji2z h_)
 obtain rfl := Option.some.inj H
 go_enter Try.func117, Try.ntmps117
 go_wp2_with (first | ((with_reducible refine gate_dst (N := 1) rfl ?_); refine box_event ?hg (N := 1) ?hd (cs := #[.slice A0_0 l0_0.length c0_0]) (t := 90) ?hr ?_; (case hd => rfl); (case hg => rfl); (case hr => first | (go_simp; done) | (go_simp; rfl)); intro gb101 hg w3 hbox hb; have BK101 := am (hbox); have GW101 := am ((Q25 : w.heap.size ≤ gb101)); have GE101 := am ((Q25 : w.heap.size ≤ gb101)); replace HB := am (below_step (Q0 HB) hb); clear hb hbox hg; have hcz4_0 : w3.cell? ⟨gb101, 0, none⟩ = some (.slice A0_0 l0_0.length c0_0) := (blk_cell BK101.out 0).trans rfl; have hfz4_0 := blk_frozen BK101.out 0))
 go_ret
 exact ⟨by first | rfl | (simp [errW_none, errW_some] <;> rfl) | (simp only [← hji2]; first | rfl | (simp [errW_none, errW_some] <;> rfl)) | (simp [*, errW_none, errW_some] <;> rfl), Q0 HB⟩
/-! ### impl_net_covers: function 145 -/
def impl_net_covers.l0 : Nat → Int → Int → List Int → List Int → Int → Int → List Int → Option (List Int)
 | 0, _, _, _, _, _, _, _ => none
 | k + 1, x1, x2, x7, x14, x15, x16, x102000 => if x16 < x15 then (if 0 ≤ x16 then (if x16 < (x14.length : Int) then ((impl_net_closed.f x102000 x2).bind fun t106 => ((impl_net_closed.f x102000 (rd x14 x16)).bind fun t107 => (if (Go.bits .andNot .i64 (Go.bits .and .i64 t106 x1) t107) = 0 then (if x7.length < 17592186044416 then (impl_net_covers.l0 k x1 x2 (x7 ++ [rd x14 x16]) x14 x15 (wrap64 (x16 + 1)) x102000) else (none)) else (impl_net_covers.l0 k x1 x2 x7 x14 x15 (wrap64 (x16 + 1)) x102000)))) else (none)) else (none)) else (some x7)
def impl_net_covers.f (k : Nat) (l0_0 : List Int) (a1 : Int) (a2 : Int) : Option (List Int) := if 0 ≤ a2 then ((impl_setOf.f k (Go.bits .andNot .i64 a1 (shl .i64 1 a2))).bind fun t102 => (impl_net_covers.l0 k a1 a2 ([] : List Int) t102 (t102.length : Int) 0 l0_0)) else (none)
theorem impl_net_covers.mono_l : ∀ k, (∀ y0 y1 y2 y3 y4 y5 y6, LeO (impl_net_covers.l0 k y0 y1 y2 y3 y4 y5 y6) (impl_net_covers.l0 (k + 1) y0 y1 y2 y3 y4 y5 y6))
 | 0 => fun _ _ _ _ _ _ _ r h => by simp [impl_net_covers.l0] at h
 | k + 1 => by
  have ih0 := impl_net_covers.mono_l k
  all_goals
   intros
   first | unfold impl_net_covers.l0
   repeat' first | (with_reducible first | exact ih0 _ _ _ _ _ _ _ | exact impl_setOf.mono _ _ | exact LeO.refl _ | exact LeO.none _ | refine LeO.ite ?_ ?_ | refine LeO.bind ?_ (fun _ => ?_))
theorem impl_net_covers.mono : ∀ a0 a1 a2 k, LeO (impl_net_covers.f k a0 a1 a2) (impl_net_covers.f (k + 1) a0 a1 a2) := by
 intro a0 a1 a2 k
 have ih0 := impl_net_covers.mono_l k
 unfold impl_net_covers.f
 repeat' first | (with_reducible first | exact ih0 _ _ _ _ _ _ _ | exact impl_setOf.mono _ _ | exact LeO.refl _ | exact LeO.none _ | refine LeO.ite ?_ ?_ | refine LeO.bind ?_ (fun _ => ?_))
def impl_net_covers.T5 : Bool × List (List Nat × List Nat) := (true, [([], []), ([], []), ([0, 1], [0, 1]), ([], []), ([2, 3], [2, 3]), ([], []), ([], []), ([5, 6, 2], [5, 6]), ([4, 7], [4, 7]), ([8], [8])])
def impl_net_covers.B5 : List Nat := [0, 0, 3, 0, 15, 0, 0, 103, 255, 511]
theorem impl_net_covers.tab5 : rtab .any (opsOf Try.f145 5) = impl_net_covers.T5 := by kernel_rfl
theorem impl_net_covers.bits5 : waitsOk impl_net_covers.T5.2 impl_net_covers.B5 = true := by kernel_rfl
set_option maxHeartbeats 8000000 in
set_option maxRecDepth 100000 in
theorem impl_net_covers.calls (k : Nat) (A0_0 : Option Addr) (c0_0 : Nat) (l0_0 : List Int) (a1 : Int) (a2 : Int) (r : List Int) (w : World) (hr0_0 : Kd.C (Kd.int .i64) w A0_0 l0_0.length l0_0) (hc0_0 : l0_0.length ≤ c0_0) (h : impl_net_covers.f k l0_0 a1 a2 = some r) :
  Calls Try.prog 145 #[.agg #[.slice A0_0 l0_0.length c0_0], .int .i64 a1, .int .i64 a2] w fun e w' => ∃ v0_ : Value, e = .returned (v0_) ∧ Kd.R (Kd.int .i64) 3 w' w.heap.size (fun _ => True) v0_ r ∧ Below w.heap.size w w' := by
 have hu90 := Try.underlying90
 have HR0_0 := Aside0.mk hr0_0
 have HC0_0 := Aside0.mk hc0_0
 clear hr0_0 hc0_0
 have HB := am (Below.refl w.heap.size w)
 have H : (if 0 ≤ a2 then ((impl_setOf.f k (Go.bits .andNot .i64 a1 (shl .i64 1 a2))).bind fun t102 => (impl_net_covers.l0 k a1 a2 ([] : List Int) t102 (t102.length : Int) 0 l0_0)) else (none)) = some r := h
 clear h
 by_cases c4 : 0 ≤ a2
 ·rw [if_pos c4] at H
  have c4b0 := eq_true c4; have c4b1 := decide_eq_true c4; clear c4; obtain ⟨ji5, hji5⟩ : ∃ j_ : Int, (shl .i64 1 a2) = j_ := ⟨_, rfl⟩; replace H : ((impl_setOf.f k (Go.bits .andNot .i64 a1 (ji5))).bind fun t102 => (impl_net_covers.l0 k a1 a2 ([] : List Int) t102 (t102.length : Int) 0 l0_0)) = some r := by first | (rw [hji5] at H; exact H) | (simp only [hji5] at H ⊢; exact H)
  have hji5_ : (IntKind.i64.wrap (1 * 2 ^ min a2.toNat 64)) = ji5 := hji5; have hji5z : a2 ≤ 64 → (IntKind.i64.wrap (1 * 2 ^ a2.toNat)) = ji5 := shl_small hji5; have hji5u : (IntKind.i64.wrap (2 ^ min a2.toNat 64)) = ji5 := by have h_ := hji5_; rw [Int.one_mul] at h_; exact h_
  have hji5v : a2 ≤ 64 → (IntKind.i64.wrap (2 ^ a2.toNat)) = ji5 := fun hle_ => by have h_ := hji5z hle_; rw [Int.one_mul] at h_; exact h_
  have hji5y : (wrap64 (1 * 2 ^ min a2.toNat 64)) = ji5 := (i64_w _).symm.trans hji5_; have hji5x : a2 ≤ 64 → (wrap64 (1 * 2 ^ a2.toNat)) = ji5 := fun h_ => (i64_w _).symm.trans (hji5z h_)
  replace H := (ob H); obtain ⟨t102, A60, H⟩ := H; (try dsimp only at H); have A6 := Aside0.mk A60; clear A60; have H' := Aside0.mk H; clear H
  go_enter Try.func145, Try.ntmps145
  go_wp2_with (first | ((with_reducible refine gate_dst (N := 3) rfl ?_); refine box_event ?hg (N := 3) ?hd (cs := #[.slice A0_0 l0_0.length c0_0]) (t := 90) ?hr ?_; (case hd => rfl); (case hg => rfl); (case hr => first | (go_simp; done) | (go_simp; rfl)); intro gb101 hg w7 hbox hb; have BK101 := am (hbox); have GW101 := am ((Q25 : w.heap.size ≤ gb101)); have GE101 := am ((Q25 : w.heap.size ≤ gb101)); replace HB := am (below_step (Q0 HB) hb); clear hb hbox hg) | ((with_reducible refine gate_callee (f := 122) rfl ?_); refine goesL_ (some 14) rfl rfl Try.func122 (by kernel_rfl) rfl #[.int .i64 (Go.bits .andNot .i64 a1 (ji5))] rfl (by (try simp only [List.map_toArray, List.map_cons, List.map_nil]); first | done | (simp only [hji5]; rfl) | rfl | (simp only [List.length_drop, List.length_take]; rfl)) ?_; (with_reducible refine (impl_setOf.calls k (Go.bits .andNot .i64 a1 (ji5)) t102 _ A6.out).mono ?_); rintro e w8 ⟨v103, rfl, ho0, hb⟩; refine ⟨_, rfl, ?_⟩; have HO104 := am (Kd.R_lower ho0 (below_size (Q0 HB))); replace BK101 := am (blk_below (g := gb101) (o := .cells #[.slice A0_0 l0_0.length c0_0] 90 (0, 0)) (Q1 BK101) hb); replace HB := am (below_step (Q0 HB) hb); (try clear hb); (try clear hb2); (try clear hk); (try clear hi); (try clear ho0); obtain ⟨Ao9, co9, eo9⟩ := Kd.R_slice HO104.out; subst eo9))
  go_loopg [7, 16] k (fun kq v7 v16 w' => ∃ (x7_1 : List Int) (x16_1 : Int), v16 = .int .i64 x16_1 ∧ Aside0 (impl_net_covers.l0 kq a1 a2 x7_1 t102 (t102.length : Int) x16_1 l0_0 = some r) ∧ Aside0 (kq ≤ k) ∧ Aside0 (Kd.R (Kd.int .i64) 3 w' w.heap.size (fun k_ => some k_ ≠ ((.slice Ao9 t102.length co9) : Value).ownBlock) v7 x7_1) ∧ Aside0 (Kd.R (Kd.int .i64) 3 w' w.heap.size (fun k_ => some k_ ≠ (v7 : Value).ownBlock) (.slice Ao9 t102.length co9) t102) ∧ Aside0 (w'.heap[gb101]? = some (.cells #[(.slice A0_0 l0_0.length c0_0)] 90 (0, 0))) ∧ Aside0 (Below w.heap.size w w'))
  case atStart => exact ⟨(([] : List Int)), (0), Q13, H', ⟨Nat.le_refl _⟩, ⟨Q49⟩, ⟨by (with_reducible repeat (first | apply Kd.R_alloc | apply Kd.R_drewN | apply Kd.R_drew)); exact Kd.R_mono HO104.out (fun _ hk => (by simp [Value.ownBlock]))⟩, ⟨Q1 BK101⟩, ⟨Q0 HB⟩⟩
  case round =>
   clear H'
   try clear c1
   try clear p2
   try clear c4
   try clear c4b0
   try clear c4b1
   try clear p6
   obtain ⟨x7_1, x16_1, rfl, HA, HK1, HO_7, HO_14, BK101, HB⟩ := hrel
   cases gk with
   | zero => exact absurd HA.out (by simp [impl_net_covers.l0])
   | succ k1 =>
    have H := HA.out; clear HA
    simp only [impl_net_covers.l0] at H
    by_cases c10 : x16_1 < (t102.length : Int)
    ·rw [if_pos c10] at H
     have c10b0 := decide_eq_true c10; clear c10
     by_cases c11 : 0 ≤ x16_1
     ·rw [if_pos c11] at H
      have c11b0 := decide_eq_true c11; clear c11
      by_cases c12 : x16_1 < (t102.length : Int)
      ·rw [if_pos c12] at H
       have c12b0 := decide_eq_true c12; clear c12; replace H := (ob H); obtain ⟨t106, A130, H⟩ := H; (try dsimp only at H); have A13 := Aside0.mk A130; clear A130; replace H := (ob H); obtain ⟨t107, A140, H⟩ := H; (try dsimp only at H); have A14 := Aside0.mk A140; clear A140; have HU15 := Aside0.mk H; clear H; have p105 : 0 ≤ (x16_1 : Int) := of_decide_eq_true Q10; have q105 : x16_1 < (t102.length : Int) := of_decide_eq_true Q10; obtain ⟨ad105, e105, hx105_0⟩ := Kd.at_int (Kd.R_reads' HO_14.out).2.2 x16_1 p105 q105
       cases e105
       replace p105 := eq_true p105; replace q105 := eq_true q105
       try go_wp2
       replace HO_7 := am (Kd.R_drew HO_7.out); replace HO_14 := am (Kd.R_drew HO_14.out); replace BK101 := am (blk_drew BK101.out); replace HB := am (below_drew1 HB.out); refine start_ (n := 10) (S := fun w' => w'.cell? ⟨gb101, 0, none⟩ = some (.slice A0_0 l0_0.length c0_0)) (ds := []) #[false, false, false, false, false, false, false, false, false, false] (by kernel_rfl) rfl rfl ((blk_cell BK101.out 0).trans rfl) (fun hHeld => ?_); refine with_tabW impl_net_covers.tab5 impl_net_covers.bits5 (fun HT_ HW_ => ?_); generalize wr.drew = w16 at HO_7 HO_14 BK101 HB hHeld ⊢; refine pq 1 21 rfl rfl HT_ ?_; refine pq 3 23 rfl rfl HT_ ?_; refine pq 6 26 rfl rfl HT_ ?_; refine take_ (i := 0) (N := some 20) (v := ?_) (a' := ?_) #[true, true, false, true, false, false, true, false, false, false] rfl rfl (take_ofW HT_.out HW_.out (by kernel_rfl)) (fun _ _ _ h => h) (Or.inl ⟨by rfl, ?_⟩) hHeld ?_ ?_
       rotate_left
       ·intro w' s0
        go_simp
        with_reducible rfl
       rotate_left
       ·simp only [Act.put, List.setIfInBounds_toArray, List.set_cons_zero, List.set_cons_succ, i64_w, i32_w]
        rfl
       refine take_ (i := 5) (N := some 25) (v := ?_) (a' := ?_) #[true, true, false, true, false, true, true, false, false, false] rfl rfl (take_ofW HT_.out HW_.out (by kernel_rfl)) (fun _ _ _ h => h) (Or.inl ⟨by rfl, ?_⟩) hHeld ?_ ?_
       rotate_left
       ·intro w' s0
        go_simp
        with_reducible rfl
       rotate_left
       ·simp only [Act.put, List.setIfInBounds_toArray, List.set_cons_zero, List.set_cons_succ, i64_w, i32_w]
        rfl
       refine oq 2 22 rfl rfl HT_ (fun K hK => ?_); refine goes_ Try.func177 (by kernel_rfl) rfl #[.agg #[.slice A0_0 l0_0.length c0_0], .int .i64 a2] (by rfl) rfl rfl Q3 ?_
       with_reducible refine (impl_net_closed.calls _ _ l0_0 a2 t106 _ ?side1 ?side2 A13.out).mono ?_
       (case side1 => exact (Q7 HR0_0 HB))
       (case side2 => exact HC0_0.out)
       rintro e w17 ⟨rfl, hb⟩; refine ⟨_, rfl, ?_⟩; replace HO_7 := am (Kd.R_below Q62 hb); replace HO_14 := am (Kd.R_below Q78 hb); replace BK101 := am (blk_below (g := gb101) (o := .cells #[.slice A0_0 l0_0.length c0_0] 90 (0, 0)) (Q1 BK101) hb); replace HB := am (below_step (Q0 HB) hb); (try clear hb); (try clear hb2); (try clear hk); (try clear hi); refine hK.out _ _ ((blk_cell BK101.out 0).trans rfl) (fun hHeld => ?_); clear hK K; refine norm_ (a' := ?_) ?_ ?_
       rotate_left
       ·show Act.put _ (some 22) _ = _
        simp only [Act.put, List.setIfInBounds_toArray, List.set_cons_zero, List.set_cons_succ, i64_w, i32_w]
        rfl
       refine pq 4 24 rfl rfl HT_ ?_; refine oq 7 27 rfl rfl HT_ (fun K hK => ?_); refine goes_ Try.func177 (by kernel_rfl) rfl #[.agg #[.slice A0_0 l0_0.length c0_0], .int .i64 (rd t102 x16_1)] (by rfl) rfl rfl Q3 ?_
       with_reducible refine (impl_net_closed.calls _ _ l0_0 (rd t102 x16_1) t107 _ ?side1 ?side2 A14.out).mono ?_
       (case side1 => exact (Q7 HR0_0 HB))
       (case side2 => exact HC0_0.out)
       rintro e w18 ⟨rfl, hb⟩; refine ⟨_, rfl, ?_⟩; replace HO_7 := am (Kd.R_below Q62 hb); replace HO_14 := am (Kd.R_below Q78 hb); replace BK101 := am (blk_below (g := gb101) (o := .cells #[.slice A0_0 l0_0.length c0_0] 90 (0, 0)) (Q1 BK101) hb); replace HB := am (below_step (Q0 HB) hb); (try clear hb); (try clear hb2); (try clear hk); (try clear hi); refine hK.out _ _ ((blk_cell BK101.out 0).trans rfl) (fun hHeld => ?_); clear hK K; refine norm_ (a' := ?_) ?_ ?_
       rotate_left
       ·show Act.put _ (some 27) _ = _
        simp only [Act.put, List.setIfInBounds_toArray, List.set_cons_zero, List.set_cons_succ, i64_w, i32_w]
        rfl
       refine pq 8 28 rfl rfl HT_ ?_; refine pq 9 29 rfl rfl HT_ ?_; refine done_ (done_of HT_.out (by kernel_rfl)) ?_
       go_upto_if 29 with (fail)
       have H := HU15.out; clear HU15
       by_cases c19 : (Go.bits .andNot .i64 (Go.bits .and .i64 t106 a1) t107) = 0
       ·rw [if_pos c19] at H
        have c19b0 := beq_iff_eq.mpr c19; have c19b1 := bne_eq_false_iff_eq.mpr c19; clear c19
        (first | rw [c19b0] | (simp only [i64_w, i32_w]; rw [c19b0]) | rw [c19b1] | skip)
        by_cases c20 : x7_1.length < 17592186044416
        ·rw [if_pos c20] at H
         have LMc20 := Aside0.mk c20; clear c20; obtain ⟨y108, hy108⟩ : ∃ y_ : List Int, y_ = (x7_1 ++ [rd t102 x16_1]) := ⟨_, rfl⟩; replace H : (impl_net_covers.l0 k1 a1 a2 y108 t102 (t102.length : Int) (wrap64 (x16_1 + 1)) l0_0) = some r := RH hy108 H; have Ny108 := Aside0.mk hy108; clear hy108; have H' := Aside0.mk H; clear H
         go_wp2_with (first | ((with_reducible refine gate_builtin (b := .append) (xs := #[.tmp 30, .tmp 32]) rfl ?_); at_builtin; refine Kd.R_append (Kd.int .i64) (w0 := w) w.heap.size rfl (.tmp 30) (.tmp 32) 25 3 (.int .i64 0) 8 rfl Try.underlying25 info3 rfl (by decide) (by omega) u7 x7_1 (rd t102 x16_1) [.int .i64 (rd t102 x16_1)] (fun k_ => some k_ ≠ (.slice (some ad105) t102.length co9 : Value).ownBlock) (fun _ => False) rfl rfl ?aP (fun _ hk => hk.elim) ?aF ?aO ?aB ?aS ?aL ?_; (case aP => exact rfl); (case aB => exact (Q0 HB)); (case aF => exact (fun k_ hk => Kd.fresh' (Kd.R_lt Q78) k_ hk)); (case aO => exact Q62); (case aS => exact (below_size (Q0 HB))); (case aL => have := LMc20.out; omega); intro v109 w21 ho hb hg hat; rw [← Ny108.out] at ho; replace HO_14 := am (Kd.R_after (ok := (fun _ => True)) (by (with_reducible repeat (first | apply Kd.R_alloc | apply Kd.R_drewN | apply Kd.R_drew)); exact Kd.R_mono HO_14.out (fun _ hk => ⟨trivial, hk⟩)) hg hat); replace BK101 := am (blk_grown (g := gb101) (o := .cells #[.slice A0_0 l0_0.length c0_0] 90 (0, 0)) (Q1 BK101) hg (Kd.R_ne HO_7.out BK101.out (by decide))); replace HB := am (hb); have HO110 := am (ho); clear HO_7; clear ho hb hg hat))
         go_roundg k1
         case measure => have := HK1.out; omega
         case rel => exact ⟨(y108), (wrap64 (x16_1 + 1)), Q13, H', ⟨Q44⟩, ⟨Q2 HO110⟩, ⟨by (with_reducible repeat (first | apply Kd.R_alloc | apply Kd.R_drewN | apply Kd.R_drew)); exact Kd.R_mono HO_14.out (fun _ hk => hk.2)⟩, ⟨Q1 BK101⟩, ⟨Q0 HB⟩⟩
        ·rw [if_neg c20] at H
         exact absurd H (by simp)
       ·rw [if_neg c19] at H
        have c19b0 := beq_eq_false_iff_ne.mpr c19; have c19b1 := bne_iff_ne.mpr c19
        (first | rw [c19b0] | (simp only [i64_w, i32_w]; rw [c19b0]) | rw [c19b1] | skip)
        have H' := Aside0.mk H; clear H
        go_wp2
        go_roundg k1
        case measure => have := HK1.out; omega
        case rel => exact ⟨(x7_1), (wrap64 (x16_1 + 1)), Q13, H', ⟨Q44⟩, ⟨Q62⟩, ⟨Q78⟩, ⟨Q1 BK101⟩, ⟨Q0 HB⟩⟩
      ·rw [if_neg c12] at H
       exact absurd H (by simp)
     ·rw [if_neg c11] at H
      exact absurd H (by simp)
    ·rw [if_neg c10] at H
     have c10b0 := decide_eq_false c10; clear c10; obtain rfl := Option.some.inj H
     go_wp2
     go_ret
     exact ⟨_, by first | rfl | (simp [errW_none, errW_some] <;> rfl) | (simp only [← hji5]; first | rfl | (simp [errW_none, errW_some] <;> rfl)) | (simp [*, errW_none, errW_some] <;> rfl), by (with_reducible repeat (first | apply Kd.R_alloc | apply Kd.R_drewN | apply Kd.R_drew)); exact Kd.R_mono HO_7.out (fun _ hk => trivial), Q0 HB⟩
 ·rw [if_neg c4] at H
  exact absurd H (by simp)
/-! ### impl_net_corners_1: function 202 -/
def impl_net_corners_1.f (k : Nat) (a0 : Int) (l1_0 : List Int) (a2_0 : Int) : Option (Bool) := (impl_net_covers.f k l1_0 a2_0 a0).bind fun t101 => (some ((t101.length : Int) == 0))
theorem impl_net_corners_1.mono : ∀ a0 a1 a2 k, LeO (impl_net_corners_1.f k a0 a1 a2) (impl_net_corners_1.f (k + 1) a0 a1 a2) := by
 intro a0 a1 a2 k
 unfold impl_net_corners_1.f
 repeat' first | (with_reducible first | exact impl_net_covers.mono _ _ _ _ | exact LeO.refl _ | exact LeO.none _ | refine LeO.ite ?_ ?_ | refine LeO.bind ?_ (fun _ => ?_))
set_option maxHeartbeats 8000000 in
set_option maxRecDepth 100000 in
theorem impl_net_corners_1.calls (k : Nat) (a0 : Int) (g1 : Nat) (A1_0 : Option Addr) (c1_0 : Nat) (l1_0 : List Int) (g2 : Nat) (a2_0 : Int) (r : Bool) (w : World) (hr1_0 : Kd.C (Kd.int .i64) w A1_0 l1_0.length l1_0) (hc1_0 : l1_0.length ≤ c1_0) (hb1 : w.heap[g1]? = some (.cells #[.slice A1_0 l1_0.length c1_0] 90 (0, 0))) (hb2 : w.heap[g2]? = some (.cells #[.int .i64 a2_0] 3 (0, 0))) (h : impl_net_corners_1.f k a0 l1_0 a2_0 = some r) :
  Calls Try.prog 202 #[.int .i64 a0, .pointer (some ⟨g1, 0, none⟩), .pointer (some ⟨g2, 0, none⟩)] w fun e w' => e = .returned (.bool r) ∧ Below w.heap.size w w' := by
 have hu90 := Try.underlying90
 have HR1_0 := Aside0.mk hr1_0
 have HC1_0 := Aside0.mk hc1_0
 clear hr1_0 hc1_0
 have BK1 := Aside0.mk hb1
 clear hb1
 have BK2 := Aside0.mk hb2
 clear hb2
 have NB2_1 := am (show g2 ≠ g1 from fun e_ => by have h_ := BK2.out; rw [e_] at h_; have h2_ := h_.symm.trans BK1.out; simp at h2_)
 have NB1_2 := am (show g1 ≠ g2 from fun e_ => by have h_ := BK1.out; rw [e_] at h_; have h2_ := h_.symm.trans BK2.out; simp at h2_)
 have HB := am (Below.refl w.heap.size w)
 have H : ((impl_net_covers.f k l1_0 a2_0 a0).bind fun t101 => (some ((t101.length : Int) == 0))) = some r := h
 clear h
 replace H := (ob H)
 obtain ⟨t101, A40, H⟩ := H
 (try dsimp only at H)
 have A4 := Aside0.mk A40
 clear A40
 obtain rfl := Option.some.inj H
 have hnb5 := NB1_2.out
 have hnc5 := NB2_1.out
 have hcz6_0 : w.cell? ⟨g1, 0, none⟩ = some (.slice A1_0 l1_0.length c1_0) := (blk_cell BK1.out 0).trans rfl
 have hfz6_0 := blk_frozen BK1.out 0
 have hcz7_0 : w.cell? ⟨g2, 0, none⟩ = some (.int .i64 a2_0) := (blk_cell BK2.out 0).trans rfl
 have hfz7_0 := blk_frozen BK2.out 0
 go_enter Try.func202, Try.ntmps202
 go_wp2_with (first | ((with_reducible refine gate_callee (f := 145) rfl ?_); refine goesL_ (some 8) rfl rfl Try.func145 (by kernel_rfl) rfl #[.agg #[.slice A1_0 l1_0.length c1_0], .int .i64 a2_0, .int .i64 a0] rfl Q3 ?_; (with_reducible refine (impl_net_covers.calls k _ _ l1_0 a2_0 a0 t101 _ ?side1 ?side2 A4.out).mono ?_); (case side1 => exact (Q87 HR1_0)); (case side2 => exact HC1_0.out); rintro e w8 ⟨v102, rfl, ho0, hb⟩; refine ⟨_, rfl, ?_⟩; have HO103 := am (Kd.R_lower (Kd.R_newB ho0 (g := g2) (o := .cells #[.int .i64 a2_0] 3 (0, 0)) (Q1 BK2)) (below_size (Q0 HB))); replace BK1 := am (blk_below (g := g1) (o := .cells #[.slice A1_0 l1_0.length c1_0] 90 (0, 0)) (Q1 BK1) hb); replace BK2 := am (blk_below (g := g2) (o := .cells #[.int .i64 a2_0] 3 (0, 0)) (Q1 BK2) hb); replace HB := am (below_step (Q0 HB) hb); (try clear hb); (try clear hb2); (try clear hk); (try clear hi); (try clear ho0); obtain ⟨Ao9, co9, eo9⟩ := Kd.R_slice HO103.out; subst eo9))
 go_ret
 exact ⟨Q11, Q0 HB⟩
/-! ### slices_IndexFunc_int_int: function 218 -/
/-- The first place at which p holds, or -1. -/
def idxF (p : Int → Bool) (xs : List Int) : Int := if xs.findIdx p < xs.length then (xs.findIdx p : Int) else -1
def slices_IndexFunc_int_int.f (p : Int → Bool) (xs : List Int) : Option Int := some (idxF p xs)
theorem idxF_at (p : Int → Bool) (xs : List Int) (i : Nat) (hi : i < xs.length) (h0 : ∀ j, j < i → p (rd xs j) = false) (h1 : p (rd xs i) = true) : idxF p xs = i := by
 have e : xs.findIdx p = i := by
  have g : ∀ j (h : j < xs.length), rd xs j = xs[j] := fun j h => by unfold rd; rw [List.getD_eq_getElem?_getD, Int.toNat_natCast, List.getElem?_eq_getElem h]; rfl
  refine (List.findIdx_eq hi).2 ⟨by rw [← g i hi]; exact h1, fun j hj => ?_⟩; rw [← g j (by omega), h0 j hj]
 unfold idxF
 rw [e, if_pos hi]
theorem idxF_no (p : Int → Bool) (xs : List Int) (h0 : ∀ j : Nat, j < xs.length → p (rd xs j) = false) : idxF p xs = -1 := by
 have g : ∀ j (h : j < xs.length), rd xs j = xs[j] := fun j h => by unfold rd; rw [List.getD_eq_getElem?_getD, Int.toNat_natCast, List.getElem?_eq_getElem h]; rfl
 have e : ¬ xs.findIdx p < xs.length := by
  intro h; have := List.findIdx_getElem (w := h); rw [← g _ h, h0 _ h] at this
  cases this
 unfold idxF
 rw [if_neg e]
theorem idx_mem (xs : List Int) (i : Nat) (h : i < xs.length) : rd xs i ∈ xs := by
 unfold rd
 rw [List.getD_eq_getElem?_getD, Int.toNat_natCast, List.getElem?_eq_getElem h]
 exact List.getElem_mem _
set_option maxHeartbeats 8000000 in
set_option maxRecDepth 100000 in
/-- What a call of IndexFunc does, for a function value that answers p at each element in all worlds of which I holds, and only makes memory. -/
theorem slices_IndexFunc_int_int.gen (F : Nat) (fi cp : Array Value) (I : World → Prop) (p : Int → Bool) (A : Option Addr) (c : Nat) (xs : List Int) (w : World) (hHas : Own.Has Try.prog F)
  (hI : ∀ W W', I W → Below W.heap.size W W' → I W') (hF : ∀ x ∈ xs, ∀ W, I W → Calls Try.prog F (fi ++ #[.int .i64 x] ++ cp) W fun e W' => e = .returned (.bool (p x)) ∧ Below W.heap.size W W')
  (hr : Kd.C (Kd.int .i64) w A xs.length xs) (hl : xs.length ≤ 1048576) (hi : I w) :
  Calls Try.prog 218 #[.slice A xs.length c, .func (.func F) fi cp] w fun e w' => e = .returned (.int .i64 (idxF p xs)) ∧ Below w.heap.size w w' ∧ I w' := by
 have HF := Aside0.mk hF
 have HI := Aside0.mk hI
 have HHas := Aside0.mk hHas
 have HR := Aside0.mk hr
 have HL := Aside0.mk hl
 have HIw0 := Aside0.mk hi
 clear hF hI hHas hr hl hi
 go_enter Try.func218, Try.ntmps218
 go_wp2
 go_loopg [8] xs.length (fun kq v8 w' => ∃ (i : Int), v8 = .int .i64 i ∧ Aside0 (0 ≤ i ∧ i ≤ xs.length ∧ (xs.length : Int) - i ≤ kq ∧ ∀ j : Nat, (j : Int) < i → p (rd xs j) = false) ∧ Aside0 (Below w.heap.size w w') ∧ Aside0 (I w'))
 case atStart => exact ⟨0, rfl, ⟨Int.le_refl _, by omega, by omega, fun j hj => absurd hj (by omega)⟩, ⟨Below.refl _ _⟩, HIw0⟩
 case round =>
  obtain ⟨i, rfl, HA, HB, HIw⟩ := hrel
  by_cases hlt : i < (xs.length : Int)
  ·have HLT := Aside0.mk hlt
   have HN := am (show ((i.toNat : Nat) : Int) = i from Int.toNat_of_nonneg HA.out.1); clear hlt; have c3b0 : decide (i < (xs.length : Int)) = true := decide_eq_true HLT.out; have c4b0 : decide (0 ≤ i) = true := decide_eq_true HA.out.1; obtain ⟨ad, e, hx⟩ := Kd.at_int HR.out i HA.out.1 HLT.out
   cases e
   have p101 := eq_true HA.out.1; have q101 := eq_true HLT.out; replace hx := (HB.out.cell (World.block_lt_of_cell? w _ hx)).trans hx; have HW := am (show wrap64 (i + 1) = i + 1 by unfold wrap64; have := HLT.out; have := HL.out; have := HA.out.1; omega); have HM := am (show rd xs i ∈ xs by have := idx_mem xs i.toNat (by have := HLT.out; have := HA.out.1; omega); rwa [HN.out] at this); obtain ⟨b, hb0⟩ : ∃ b, p (rd xs i) = b := ⟨_, rfl⟩; have HPB := Aside0.mk hb0; clear hb0
   cases b with
   | true =>
    go_wp2_with (first | ((with_reducible refine gate_dst (N := 16) rfl ?_); refine Own.goesC_ (some 16) rfl rfl HHas.out #[.int .i64 (rd xs i)] rfl rfl Q53 ?_; refine (HF.out _ HM.out _ HIw.out).mono ?_; rintro e w12 ⟨he_, hb⟩; rw [HPB.out] at he_; subst he_; refine ⟨_, rfl, ?_⟩; have n0_ := am (below_step HB.out hb); have n1_ := am (HI.out _ _ HIw.out hb); clear HB HIw hb; have HB := n0_; have HIw := n1_; clear n0_ n1_))
    go_ret
    refine ⟨?_, HB.out, HIw.out⟩; have e1 := idxF_at p xs i.toNat (by have := HLT.out; have := HA.out.1; omega) (fun j hj => HA.out.2.2.2 j (by have := HN.out; omega)) (by rw [HN.out]; exact HPB.out); rw [HN.out] at e1; rw [e1]
    rfl
   | false =>
    go_wp2_with (first | ((with_reducible refine gate_dst (N := 16) rfl ?_); refine Own.goesC_ (some 16) rfl rfl HHas.out #[.int .i64 (rd xs i)] rfl rfl Q53 ?_; refine (HF.out _ HM.out _ HIw.out).mono ?_; rintro e w12 ⟨he_, hb⟩; rw [HPB.out] at he_; subst he_; refine ⟨_, rfl, ?_⟩; have n0_ := am (below_step HB.out hb); have n1_ := am (HI.out _ _ HIw.out hb); clear HB HIw hb; have HB := n0_; have HIw := n1_; clear n0_ n1_))
    go_roundg ((xs.length : Int) - (i + 1)).toNat
    case measure => have := HA.out; have := HLT.out; omega
    case rel =>
     refine ⟨wrap64 (i + 1), Q13, ⟨by rw [HW.out]; have := HA.out.1; omega, by rw [HW.out]; have := HLT.out; omega, by rw [HW.out]; have := HLT.out; omega, fun j hj => ?_⟩, HB, HIw⟩; rw [HW.out] at hj
     by_cases e : (j : Int) = i
     ·rw [e]; exact HPB.out
     ·exact HA.out.2.2.2 j (by omega)
  ·have c3b0 : decide (i < (xs.length : Int)) = false := decide_eq_false hlt
   have HLT := Aside0.mk hlt; clear hlt
   go_wp2
   go_ret
   refine ⟨?_, HB.out, HIw.out⟩; rw [idxF_no p xs (fun j hj => HA.out.2.2.2 j (by have := HLT.out; omega))]
   rfl
/-! ### slices_DeleteFunc_int_int: function 201 -/
def slices_DeleteFunc_int_int.f (p : Int → Bool) (xs : List Int) : Option (List Int) := some (xs.filter fun x => !p x)
theorem idx_cases (p : Int → Bool) (xs : List Int) : (idxF p xs = -1 ∧ ∀ j : Nat, j < xs.length → p (rd xs j) = false) ∨ ∃ k : Nat, k < xs.length ∧ idxF p xs = k ∧ p (rd xs k) = true ∧ ∀ j : Nat, j < k → p (rd xs j) = false := by
 have g : ∀ j (h : j < xs.length), rd xs j = xs[j] := fun j h => by unfold rd; rw [List.getD_eq_getElem?_getD, Int.toNat_natCast, List.getElem?_eq_getElem h]; rfl
 by_cases h : xs.findIdx p < xs.length
 ·refine .inr ⟨xs.findIdx p, h, by unfold idxF; rw [if_pos h], by rw [g _ h]; exact List.findIdx_getElem, fun j hj => ?_⟩
  rw [g j (by omega)]; have := List.not_of_lt_findIdx hj
  simpa using this
 ·refine .inl ⟨by unfold idxF; rw [if_neg h], fun j hj => ?_⟩
  rw [g j hj]; have h' : xs.findIdx p = xs.length := by have := List.findIdx_le_length (p := p) (xs := xs); omega
  have := List.not_of_lt_findIdx (p := p) (xs := xs) (i := j) (by omega)
  simpa using this
theorem filter_none (p : Int → Bool) (xs : List Int) (h : ∀ j : Nat, j < xs.length → p (rd xs j) = false) : (xs.filter fun x => !p x) = xs := by
 refine List.filter_eq_self.2 (fun x hx => ?_)
 obtain ⟨j, hj, rfl⟩ := List.mem_iff_getElem.1 hx
 have g : rd xs j = xs[j] := by unfold rd; rw [List.getD_eq_getElem?_getD, Int.toNat_natCast, List.getElem?_eq_getElem hj]; rfl
 rw [← g, h j hj]
 rfl
theorem take_snoc_rd (xs : List Int) (j : Nat) (h : j < xs.length) : xs.take (j + 1) = xs.take j ++ [rd xs j] := by
 have g : rd xs j = xs[j] := by unfold rd; rw [List.getD_eq_getElem?_getD, Int.toNat_natCast, List.getElem?_eq_getElem h]; rfl
 rw [List.take_succ_eq_append_getElem h, g]
/-- The state of the rewriting: i kept of the first j. -/
def DelInv (p : Int → Bool) (xs : List Int) (i j : Nat) (dk : List Int) : Prop :=
 i < j ∧ j ≤ xs.length ∧ dk.length = xs.length ∧ dk.take i = ((xs.take j).filter fun x => !p x) ∧ ∀ m : Nat, j ≤ m → m < xs.length → rd dk m = rd xs m
theorem DelInv.start {p : Int → Bool} {xs : List Int} {k : Nat} (hk : k < xs.length) (h1 : p (rd xs k) = true) (h0 : ∀ j : Nat, j < k → p (rd xs j) = false) : DelInv p xs k (k + 1) xs := by
 refine ⟨by omega, by omega, rfl, ?_, fun _ _ _ => rfl⟩
 rw [take_snoc_rd xs k hk, List.filter_append, List.filter_cons, h1]
 have hl : (xs.take k).length = k := by rw [List.length_take]; omega
 have := filter_none p (xs.take k) (fun j hj => by
  have e : rd (xs.take k) j = rd xs j := by unfold rd; rw [List.getD_eq_getElem?_getD, List.getD_eq_getElem?_getD, Int.toNat_natCast, List.getElem?_take_of_lt (by omega)]
  rw [e]; exact h0 j (by omega))
 rw [this]
 simp
theorem DelInv.skip {p : Int → Bool} {xs dk : List Int} {i j : Nat} (h : DelInv p xs i j dk) (hj : j < xs.length) (h1 : p (rd xs j) = true) : DelInv p xs i (j + 1) dk := by
 obtain ⟨a, b, c, d, e⟩ := h
 refine ⟨by omega, by omega, c, ?_, fun m h2 h3 => e m (by omega) h3⟩
 rw [take_snoc_rd xs j hj, List.filter_append, List.filter_cons, h1, d]
 simp
theorem DelInv.keep {p : Int → Bool} {xs dk : List Int} {i j : Nat} (h : DelInv p xs i j dk) (hj : j < xs.length) (h1 : p (rd xs j) = false) : DelInv p xs (i + 1) (j + 1) (dk.set i (rd xs j)) := by
 obtain ⟨a, b, c, d, e⟩ := h
 refine ⟨by omega, by omega, by rw [List.length_set]; exact c, ?_, fun m h2 h3 => ?_⟩
 ·rw [take_snoc_rd xs j hj, List.filter_append, List.filter_cons, h1, ← d, take_snoc_rd (dk.set i (rd xs j)) i (by rw [List.length_set]; omega)]
  have e1 : ∀ x, rd (dk.set i x) i = x := fun x => by unfold rd; rw [List.getD_eq_getElem?_getD, Int.toNat_natCast, List.getElem?_set_self (by omega)]; rfl
  rw [e1, List.take_set_of_le (Nat.le_refl _)]
  rfl
 ·have := e m (by omega) h3
  rw [← this]; generalize rd xs j = x
  unfold rd
  rw [List.getD_eq_getElem?_getD, Int.toNat_natCast, List.getElem?_set_ne (by omega), List.getD_eq_getElem?_getD]
theorem R_clear {base g c n : Nat} {ok : Nat → Prop} : ∀ (m : Nat) (i : Nat) (W : World) (dk : List Int), Kd.R (Kd.int .i64) 3 W base ok (.slice (some ⟨g, 0, none⟩) n c) dk → i + m ≤ n →
  ∃ dk', Kd.R (Kd.int .i64) 3 (W.setCells g i (List.replicate m (.int .i64 0))) base ok (.slice (some ⟨g, 0, none⟩) n c) dk' ∧ dk'.take i = dk.take i ∧ Kept W (W.setCells g i (List.replicate m (.int .i64 0))) (fun k => k = g)
 | 0, i, W, dk, h, _ => ⟨dk, h, rfl, Kept.refl _ _⟩
 | m + 1, i, W, dk, h, hn => by
  have h1 := Kd.R_putg h (i : Int) 0; rw [Int.toNat_natCast] at h1; obtain ⟨dk', h2, h3, h4⟩ := R_clear (base := base) (ok := ok) m (i + 1) _ _ h1.1 (by omega); refine ⟨dk', h2, ?_, ?_⟩
  ·have : (dk'.take (i + 1)).take i = ((dk.set i 0).take (i + 1)).take i := by rw [h3]
   rw [List.take_take, List.take_take, Nat.min_eq_left (by omega), List.take_set_of_le (Nat.le_refl _)] at this; exact this
  ·exact Kept.then_ (Kept.of_grown h1.2 (Kept.refl W (fun k => k = g)) (fun k hk => .inl (Option.some.inj hk).symm)) h4 (fun k hk => .inl hk)
theorem I_setCells {I : World → Prop} {g : Nat} (h : ∀ W off u, I W → I (W.setCell ⟨g, off, none⟩ u)) : ∀ (vs : List Value) (o : Nat) (W : World), I W → I (W.setCells g o vs)
 | [], _, _, hi => hi
 | v :: r, o, W, hi => I_setCells h r (o + 1) _ (h W o v hi)
set_option maxHeartbeats 8000000 in
set_option maxRecDepth 100000 in
/-- What a call of DeleteFunc does with a row of the caller's own, for a function value that answers p at each element in all worlds of which I holds, and only makes memory. -/
theorem slices_DeleteFunc_int_int.gen (F : Nat) (fi cp : Array Value) (I : World → Prop) (p : Int → Bool) (base : Nat) (ok : Nat → Prop) (v : Value) (xs : List Int) (w : World) (hHas : Own.Has Try.prog F)
  (hI : ∀ W W', I W → Below W.heap.size W W' → I W') (hIs : ∀ g, v.ownBlock = some g → ∀ W off u, I W → I (W.setCell ⟨g, off, none⟩ u))
  (hF : ∀ x ∈ xs, ∀ W, I W → Calls Try.prog F (fi ++ #[.int .i64 x] ++ cp) W fun e W' => e = .returned (.bool (p x)) ∧ Below W.heap.size W W')
  (hr : Kd.R (Kd.int .i64) 3 w base ok v xs) (hl : xs.length ≤ 1048576) (hi : I w) :
  Calls Try.prog 201 #[v, .func (.func F) fi cp] w fun e w' => ∃ v' : Value, e = .returned v' ∧ Kd.R (Kd.int .i64) 3 w' base ok v' (xs.filter fun x => !p x) ∧ I w' ∧ Kept w w' (fun k => some k = v.ownBlock) := by
 have hIF := fun (A : Option Addr) (c : Nat) (hr' : Kd.C (Kd.int .i64) w A xs.length xs) => slices_IndexFunc_int_int.gen F fi cp I p A c xs w hHas hI hF hr' hl hi
 have HIF := Aside0.mk hIF
 clear hIF
 obtain ⟨A, c, rfl⟩ := Kd.R_slice hr
 have hrd := Kd.R_reads' hr
 have HRD := Aside0.mk hrd
 clear hrd
 have HO := Aside0.mk hr
 have HF := Aside0.mk hF
 have HI := Aside0.mk hI
 have HIs := Aside0.mk hIs
 have HHas := Aside0.mk hHas
 clear hF hI hIs hHas hr
 have HIw := Aside0.mk hi
 clear hi
 rcases idx_cases p xs with ⟨e1, h0⟩ | ⟨k, hk, e1, h1, h0⟩
 ·have HX := am (show idxF p xs = -1 from e1)
  have HN := am (filter_none p xs h0); clear e1 h0
  go_enter Try.func201, Try.ntmps201
  go_wp2_with (first | (go_at_call 218; refine (HIF.out A c HRD.out.2.2).mono ?_; rintro e w1 ⟨he_, hb, hi1⟩; rw [HX.out] at he_; subst he_; have n0_ := am (Kd.R_below HO.out hb); have n1_ := Aside0.mk hi1; have n2_ := am (Kept.of_below hb (fun k => some k = (Value.slice A xs.length c).ownBlock)); clear HO HIw hb hi1; have HO := n0_; have HIw := n1_; have HK := n2_; clear n0_ n1_ n2_))
  go_ret
  exact ⟨_, rfl, by rw [HN.out]; exact HO.out, HIw.out, HK.out⟩
 ·have HX := am (show idxF p xs = (k : Int) from e1)
  have HS := am (DelInv.start hk h1 h0); obtain ⟨g, cap, ev, _, _, _⟩ := Kd.R_form HO.out (by omega)
  injection ev with ea _ ec
  subst ea ec; have hne1 : ((k : Int) == -1) = false := beq_eq_false_iff_ne.2 (by omega); clear e1 h1 h0; have hcap : xs.length ≤ c := HRD.out.2.1
  go_enter Try.func201, Try.ntmps201
  go_wp2_with (first | (go_at_call 218; refine (HIF.out _ c HRD.out.2.2).mono ?_; rintro e w1 ⟨he_, hb, hi1⟩; rw [HX.out] at he_; subst he_; have n0_ := am (Kd.R_below HO.out hb); have n1_ := Aside0.mk hi1; have n2_ := am (Kept.of_below hb (fun k => k = g)); clear HO HIw hb hi1; have HO := n0_; have HIw := n1_; have HK := n2_; clear n0_ n1_ n2_))
  go_loopg [5, 6] xs.length (fun kq v5 v6 wr => ∃ (i j : Nat) (dk : List Int), v5 = .int .i64 i ∧ v6 = .int .i64 j ∧ j ≤ xs.length ∧ xs.length - j ≤ kq ∧ Aside0 (DelInv p xs i j dk) ∧ Aside0 (Kd.R (Kd.int .i64) 3 wr base ok (.slice (some ⟨g, 0, none⟩) xs.length c) dk) ∧ Aside0 (I wr) ∧ Aside0 (Kept w wr (fun k => k = g)))
  case atStart => exact ⟨k, k + 1, xs, rfl, by go_num, by omega, by omega, HS, HO, HIw, HK⟩
  case round =>
   clear HO HIw HK; obtain ⟨i, j, dk, rfl, rfl, hjd, hgg, HV, HO, HIw, HK⟩ := hrel; have hij := HV.out.1
   by_cases hlt : j < xs.length
   ·have hltz : (j : Int) < (xs.length : Int) := by omega
    have hgl := fun (W : World) (h : Kd.R (Kd.int .i64) 3 W base ok (.slice (some ⟨g, 0, none⟩) xs.length c) dk) (m : Nat) (hm : m < xs.length) => Kd.R_celln 0 h (m : Int) (by omega) (by omega)
    have HGL := Aside0.mk hgl; clear hgl; have hx : wr.cell? ⟨g, j, none⟩ = some (.int .i64 (rd xs j)) := by
     have := (HGL.out wr HO.out j hlt).1; rw [Int.toNat_natCast] at this; rw [← HV.out.2.2.2.2 j (Nat.le_refl _) hlt]; exact this
    have HM := am (idx_mem xs j hlt); obtain ⟨u, hu⟩ : ∃ u, rd xs j = u := ⟨_, rfl⟩; rw [hu] at hx HM; have HU := Aside0.mk hu; clear hu; obtain ⟨b, hb0⟩ : ∃ b, p u = b := ⟨_, rfl⟩; have HPB := Aside0.mk hb0; clear hb0
    cases b with
    | true =>
     go_wp2_with (first | ((with_reducible refine gate_dst (N := 28) rfl ?_); refine Own.goesC_ (some 28) rfl rfl HHas.out #[.int .i64 u] rfl rfl Q53 ?_; refine (HF.out _ HM.out _ HIw.out).mono ?_; rintro e w12 ⟨he_, hb⟩; rw [HPB.out] at he_; subst he_; refine ⟨_, rfl, ?_⟩; have n0_ := am (Kd.R_below HO.out hb); have n1_ := am (HI.out _ _ HIw.out hb); have n2_ := am (Kept.below HK.out hb); clear HO HIw HK hb; have HO := n0_; have HIw := n1_; have HK := n2_; clear n0_ n1_ n2_))
     go_roundg (xs.length - (j + 1))
     case measure => omega
     case rel => exact ⟨i, j + 1, dk, rfl, by go_num, by omega, Nat.le_refl _, ⟨HV.out.skip hlt (by rw [HU.out]; exact HPB.out)⟩, HO, HIw, HK⟩
    | false =>
     have hin : i < xs.length := by omega
     go_wp2_with (first | ((with_reducible refine gate_dst (N := 28) rfl ?_); refine Own.goesC_ (some 28) rfl rfl HHas.out #[.int .i64 u] rfl rfl Q53 ?_; refine (HF.out _ HM.out _ HIw.out).mono ?_; rintro e w12 ⟨he_, hb⟩; rw [HPB.out] at he_; subst he_; refine ⟨_, rfl, ?_⟩; have n0_ := am (Kd.R_below HO.out hb); have n1_ := am (HI.out _ _ HIw.out hb); have n2_ := am (Kept.below HK.out hb); clear HO HIw HK hb; have HO := n0_; have HIw := n1_; have HK := n2_; clear n0_ n1_ n2_; have hxi : w12.cell? ⟨g, i, none⟩ = some (.int .i64 (rd dk i)) := (HGL.out w12 HO.out i hin).1; have hfi : w12.frozen? ⟨g, i, none⟩ = false := (HGL.out w12 HO.out i hin).2; have HP7 := am (Kd.R_putg HO.out (i : Int) u)))
     go_roundg (xs.length - (j + 1))
     case measure => omega
     case rel => exact ⟨i + 1, j + 1, dk.set i u, by go_num, by go_num, by omega, Nat.le_refl _, ⟨by have := HV.out.keep hlt (by rw [HU.out]; exact HPB.out); rwa [HU.out] at this⟩, ⟨HP7.out.1⟩, ⟨HIs.out g rfl _ _ _ HIw.out⟩, ⟨Kept.of_grown HP7.out.2 HK.out (fun k hk => .inl (Option.some.inj hk).symm)⟩⟩
   ·obtain rfl : j = xs.length := by omega
    have hltz : ¬ (xs.length : Int) < (xs.length : Int) := by omega
    have hgl := fun (m : Nat) (hm : m < xs.length) => Kd.R_celln 0 HO.out (m : Int) (by omega) (by omega)
    have hcl : ∀ ty, (Builtin.clear_ #[25] ty #[.slice (some ⟨g, i, none⟩) (xs.length - i) (c - i)]).run Try.prog wr = .ok (.tuple #[]) (wr.setCells g i (List.replicate (xs.length - i) (.int .i64 0))) :=
     fun ty => Lib.run_clear_slice wr _ _ ty _ Try.underlying25 (fun w => by kernel_rfl) rfl rfl g i _ _ (by omega) (fun t ht => by have := (hgl (i + t) (by omega)).1; rw [Int.toNat_natCast] at this; rw [this]; rfl) (fun t ht => by have := (hgl (i + t) (by omega)).2; rw [Int.toNat_natCast] at this; exact this)
    obtain ⟨dk', hR, ht, hK⟩ := R_clear (xs.length - i) i wr dk HO.out (by omega); have HR' := Aside0.mk hR; have HT' := Aside0.mk ht; have HK' := Aside0.mk hK; clear hgl hR ht hK
    go_wp2
    go_ret
    have hV := HV.out; have hlen : i = (xs.filter fun x => !p x).length := by
     have := congrArg List.length hV.2.2.2.1; rw [List.length_take, List.take_length, hV.2.2.1] at this
     omega
    refine ⟨_, rfl, ?_, I_setCells (HIs.out g rfl) _ _ _ HIw.out, Kept.mono (HK.out.then_ HK'.out (fun k hk => .inl hk)) (fun k hk => by rw [hk]; rfl)⟩; have := Kd.R_take HR'.out (m := i) (by have := (Kd.R_reads' HR'.out).1; omega); rw [HT'.out, hV.2.2.2.1, List.take_length] at this; exact this
end Go.Proofs.Ytcjddikalgnhpaa.P
