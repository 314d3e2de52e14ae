/- Functions of the program as Lean functions, that each call comes to what they say, and what holds of them; part 2 of 9; no conditions beyond those that each theorem names. -/
import Derived.Test.YtcjddikalgnhpaaShelf
import Derived.Test.YtcjddikalgnhpaaK1
namespace Go.Proofs.Ytcjddikalgnhpaa.P
open Go.RowKit Go.Proofs.YtcjddikalgnhpaaW.PrintWords Go.Proofs.YtcjddikalgnhpaaW.PrintLast Go.Proofs.YtcjddikalgnhpaaW.PrintMore
section
variable {α : Type} [Inhabited α] (enc : α → Value) {w0 w : World} {blk : Nat} (n : Nat) (d : Array α) (os : Array Obj)
/-- The world behind a sort of a whole block's first cells. -/
def srt (w : World) (blk n : Nat) (d : Array α) (os : Array Obj) : World := Go.Sort.grow (Go.Sort.putRow enc (Go.Sort.ahead w n) blk 0 d) os
theorem srt_old {k : Nat} (hk : k < w.heap.size) (hne : k ≠ blk) : (srt enc w blk n d os).heap[k]? = w.heap[k]? := by
  unfold srt
  rw [Go.Sort.heap_grow_old _ _ (by simpa using hk)]
  unfold Go.Sort.putRow Go.Sort.mapBlock
  simp [Array.getElem?_modify, Ne.symm hne, Go.Sort.ahead]
theorem srt_at {c : Array Value} {e : TypeId} {fr : Nat × Nat} (hb : w.heap[blk]? = some (.cells c e fr)) : (srt enc w blk n d os).heap[blk]? = some (.cells (Go.Sort.putCells enc 0 d c) e fr) := by
  have hlt : blk < w.heap.size := (Array.getElem?_eq_some_iff.1 hb).1
  unfold srt
  rw [Go.Sort.heap_grow_old _ _ (by simpa using hlt)]
  unfold Go.Sort.putRow Go.Sort.mapBlock
  simp [Array.getElem?_modify, Go.Sort.ahead, hb, Go.Sort.onCells]
theorem srt_size : w.heap.size ≤ (srt enc w blk n d os).heap.size := by
  unfold srt
  simp
theorem srt_below (hB : Below w0.heap.size w0 w) (hb : w0.heap.size ≤ blk) : Below w0.heap.size w0 (srt enc w blk n d os) :=
  ⟨hB.os, hB.tape, hB.output, Nat.le_trans hB.size (srt_size enc n d os), fun k hk => (srt_old enc n d os (Nat.lt_of_lt_of_le hk hB.size) (by omega)).trans (hB.block k hk)⟩
theorem srt_kept {P : Nat → Prop} (hb : P blk) : Kept w (srt enc w blk n d os) P := ⟨srt_size enc n d os, fun _ hk hn => srt_old enc n d os hk (fun e => hn (e ▸ hb))⟩
theorem putCells_size (c : Array Value) : (Go.Sort.putCells enc 0 d c).size = c.size := by simp [Go.Sort.putCells]
theorem putCells_take (c : Array Value) (h : d.size ≤ c.size) : (Go.Sort.putCells enc 0 d c).toList.take d.size = d.toList.map enc := by
  apply List.ext_getElem?
  intro j
  rcases Nat.lt_or_ge j d.size with hj | hj
  · have hc : j < c.size := by omega
    rw [List.getElem?_take_of_lt hj, Array.getElem?_toList, List.getElem?_map, Array.getElem?_toList]
    simp [Go.Sort.putCells, hj, hc]
  · rw [List.getElem?_eq_none (by simp; omega), List.getElem?_eq_none (by simp; omega)]
theorem putCells_get (c : Array Value) (j : Nat) (h : d.size ≤ j) : (Go.Sort.putCells enc 0 d c)[j]? = c[j]? := by
  simp only [Go.Sort.putCells, Array.getElem?_mapIdx, Nat.zero_le, Nat.zero_add, true_and, if_neg (Nat.not_lt.2 h)]
  cases c[j]? <;> rfl
end
/-- Numbers in ascending order. -/
def sortL (zs : List Int) : List Int := zs.mergeSort fun x y => decide (x ≤ y)
theorem sortL_length (zs : List Int) : (sortL zs).length = zs.length := List.length_mergeSort zs
theorem sort_row (u : Value) (zs : List Int) (oki : Nat → Prop) (w0 w : World) (hsort : ∀ (blk off cap : Nat) (zs : List Int) (w : World) (_ : Go.Sort.Holds (Value.int .i64) w blk off zs.toArray) (_ : blk < w.heap.size) (_ : zs.length < 4611686018427387904),
    Calls Try.prog 179 #[.slice (some ⟨blk, off, none⟩) zs.length cap] w fun e w' =>
      e = .returned (.tuple #[]) ∧ ∃ n os, w' = Go.Sort.grow (Go.Sort.putRow (Value.int .i64) (Go.Sort.ahead w n) blk off (zs.mergeSort fun x y => decide (x ≤ y)).toArray) os)
    (hB : Below w0.heap.size w0 w) (hR : Kd.R (Kd.int .i64) 3 w w0.heap.size oki u zs) (h0 : 0 < zs.length) (hlen : zs.length < 4611686018427387904) :
    Calls Try.prog 179 #[u] w fun e w' => e = .returned (.tuple #[]) ∧ Kd.R (Kd.int .i64) 3 w' w0.heap.size oki u (sortL zs) ∧ Below w0.heap.size w0 w' ∧ Kept w w' oki := by
  have ho := Kd.own_of_R hR
  obtain ⟨g, cap, rfl, hg, hlt, -⟩ := Kd.R_form hR h0
  have hok : oki g := hR.1 g rfl
  obtain ⟨hl, h2⟩ := ho
  rcases h2 with ⟨he, _⟩ | ⟨g', cap', cur, he, hb, hh, hnc, hcm, hcs, ht⟩
  · cases he
  · injection he with ha _ hc
    injection ha with ha
    injection ha with ha
    subst ha hc
    have hH : Go.Sort.Holds (Value.int .i64) w g 0 zs.toArray := by
      intro j hj
      have hj' : j < zs.length := by simpa using hj
      refine ⟨?_, by rw [Nat.zero_add]; exact blk_frozen hh j⟩
      rw [Nat.zero_add, blk_cell hh j, ← Array.getElem?_toList]
      have h3 : (cur.toList.take (zs.length * 1))[j]? = (encs (Value.int .i64) zs)[j]? := by rw [ht]
      rw [Nat.mul_one, List.getElem?_take_of_lt hj'] at h3
      rw [h3]
      simp [encs, hj']
    refine (hsort g 0 cap zs w hH hlt hlen).mono ?_
    rintro e w' ⟨rfl, n, os, hw⟩
    have hw' : w' = srt (Value.int .i64) w g n (sortL zs).toArray os := hw
    subst hw'
    have hsz : (sortL zs).toArray.size = zs.length := by simp [sortL_length]
    refine ⟨rfl, ?_, srt_below _ _ _ _ hB hg, srt_kept _ _ _ _ hok⟩
    refine Kd.R_of_own ⟨by simp [encs], Or.inr ⟨g, cap, _, ?_, hg, srt_at _ _ _ _ hh, ?_, hcm, by rw [putCells_size]; exact hcs, ?_⟩⟩ hR.1
    · rw [sortL_length]
    · rw [sortL_length]; exact hnc
    · have := putCells_take (Value.int .i64) (sortL zs).toArray cur (by rw [hsz]; omega)
      rw [hsz] at this
      rw [sortL_length, Nat.mul_one, this]
      simp [encs]
section
/-- The order of lists, as the library's Compare tells it. -/
def cmpL : List Int → List Int → Int
  | [], [] => 0
  | [], _ :: _ => -1
  | _ :: _, [] => 1
  | a :: x, b :: y => if a < b then -1 else if b < a then 1 else cmpL x y
theorem cmpL_self : ∀ x, cmpL x x = 0
  | [] => rfl
  | a :: x => by simp [cmpL, cmpL_self x]
theorem cmpL_trans : ∀ x y z, cmpL x y < 0 → cmpL y z < 0 → cmpL x z < 0
  | [], [], _, h, _ => by simp [cmpL] at h
  | [], _ :: _, [], _, h => by simp [cmpL] at h
  | [], _ :: _, _ :: _, _, _ => by simp [cmpL]
  | _ :: _, [], _, h, _ => by simp [cmpL] at h
  | _ :: _, _ :: _, [], _, h => by simp [cmpL] at h
  | a :: x, b :: y, c :: z, h, k => by
    have ih := cmpL_trans x y z
    simp only [cmpL] at *
    split at h <;> split at k <;> (try split at h) <;> (try split at k) <;> (repeat' split) <;> first | omega | exact ih h k | simp_all
theorem cmpL_ntrans : ∀ x y z, ¬ cmpL x y < 0 → ¬ cmpL y z < 0 → ¬ cmpL x z < 0
  | _, [], [], h, _ => h
  | [], [], _ :: _, _, k => by simp [cmpL] at k
  | [], _ :: _, _, h, _ => by simp [cmpL] at h
  | _ :: _, [], _ :: _, _, k => by simp [cmpL] at k
  | _ :: _, _ :: _, [], _, _ => by simp [cmpL]
  | a :: x, b :: y, c :: z, h, k => by
    have ih := cmpL_ntrans x y z
    simp only [cmpL] at *
    split at h <;> split at k <;> (try split at h) <;> (try split at k) <;> (repeat' split) <;> first | omega | exact ih h k | simp_all
theorem cmpL_eq : ∀ x y, ¬ cmpL x y < 0 → ¬ cmpL y x < 0 → x = y
  | [], [], _, _ => rfl
  | [], _ :: _, h, _ => by simp [cmpL] at h
  | _ :: _, [], _, h => by simp [cmpL] at h
  | a :: x, b :: y, h, k => by
    have ih := cmpL_eq x y
    simp only [cmpL] at *
    split at h
    · omega
    · split at h
      · split at k
        · omega
        · omega
      · have e : a = b := by omega
        subst e
        rw [if_neg (by omega), if_neg (by omega)] at k
        rw [ih h k]
theorem compare_ev (x y : List Int) (hx : x.length < 4611686018427387904) : ∀ (n : Nat) (i : Int), 0 ≤ i → i ≤ (x.length : Int) → i ≤ (y.length : Int) → n = ((x.length : Int) - i).toNat → ∀ k, n + 1 ≤ k → slices_Compare_int_int.l0 k x y x (x.length : Int) i = some (cmpL (x.drop i.toNat) (y.drop i.toNat)) := by
  intro n
  induction n with
  | zero =>
    intro i h0 h1 h2 hn k hk
    obtain ⟨k', rfl⟩ : ∃ k', k = k' + 1 := ⟨k - 1, by omega⟩
    have hi : i = (x.length : Int) := by omega
    subst hi
    rw [slices_Compare_int_int.l0, if_neg (by omega), Int.toNat_natCast, List.drop_length]
    by_cases hxy : (x.length : Int) < (y.length : Int)
    · rw [if_pos hxy]
      cases hd : y.drop x.length with
      | nil => have := congrArg List.length hd; simp at this; omega
      | cons a l => rfl
    · rw [if_neg hxy, List.drop_of_length_le (by omega)]
      rfl
  | succ n ih =>
    intro i h0 h1 h2 hn k hk
    obtain ⟨k', rfl⟩ : ∃ k', k = k' + 1 := ⟨k - 1, by omega⟩
    have hlt : i < (x.length : Int) := by omega
    have hxl : i.toNat < x.length := by omega
    rw [slices_Compare_int_int.l0, if_pos hlt, if_pos h0, if_pos hlt]
    rw [List.drop_eq_getElem_cons hxl]
    by_cases hy : i ≥ (y.length : Int)
    · rw [if_pos hy, show y.drop i.toNat = [] from List.drop_of_length_le (by omega)]
      rfl
    · have hyl : i.toNat < y.length := by omega
      rw [if_neg hy, if_pos (by omega), cmp_int, Option.bind_some, List.drop_eq_getElem_cons hyl]
      have e1 : rd x i = x[i.toNat] := by simp [rd, List.getD_eq_getElem?_getD, List.getElem?_eq_getElem hxl]
      have e2 : rd y i = y[i.toNat] := by simp [rd, List.getD_eq_getElem?_getD, List.getElem?_eq_getElem hyl]
      rw [e1, e2]
      have hw : wrap64 (i + 1) = i + 1 := by unfold wrap64; omega
      have hi := ih (i + 1) (by omega) (by omega) (by omega) (by omega) k' (by omega)
      rw [show (i + 1).toNat = i.toNat + 1 by omega] at hi
      simp only [cmpL]
      by_cases c1 : x[i.toNat] < y[i.toNat]
      · simp [c1]
      · by_cases c2 : y[i.toNat] < x[i.toNat]
        · simp [c1, c2]
        · simp only [c1, c2, if_false]
          rw [hw, hi]
          simp
theorem compare_is (x y : List Int) (hx : x.length < 4611686018427387904) : slices_Compare_int_int.f (x.length + 1) x y = some (cmpL x y) := by
  unfold slices_Compare_int_int.f
  have h := compare_ev x y hx x.length 0 (by omega) (by omega) (by omega) (by omega) (x.length + 1) (by omega)
  simpa using h
end
section
variable {w w' : World} {base : Nat} {ok : Nat → Prop} {v : Value} {xs ys : List (List Int)}
abbrev D_ : Kd (List Int) := Kd.slice 3 (Kd.int .i64)
/-- A list of lists laid open: its block, its cells, and each list's own row, told by its tag. -/
theorem S_open (h : Kd.S D_ 25 w base ok v xs) (hp : 0 < xs.length) : ∃ (g cap : Nat) (cur : Array Value) (f : Nat → Nat) (us : List Value), v = .slice (some ⟨g, 0, none⟩) xs.length cap ∧ base ≤ g ∧ ok g ∧ w.heap[g]? = some (.cells cur 25 (0, 0)) ∧ xs.length ≤ cap ∧ cap ≤ maxLen ∧ cur.size = cap ∧ us.length = xs.length ∧ cur.toList.take xs.length = us ∧ ∀ (j : Nat) (x : List Int) (u : Value), xs[j]? = some x → us[j]? = some u → Kd.R (Kd.int .i64) 3 w base (fun k => (ok k ∧ k ≠ g) ∧ f k = j) u x := by
  obtain ⟨f, h0, inner, ho, hr⟩ := h
  obtain ⟨hl, h2⟩ := ho
  rw [List.length_zipIdx] at h2 hl
  rcases h2 with ⟨_, he⟩ | ⟨g, cap, cur, rfl, hb, hh, hnc, hcm, hcs, ht⟩
  · omega
  · have h1 : (Kd.tag f D_).sz = 1 := rfl
    rw [h1, Nat.mul_one] at hl ht hcs
    refine ⟨g, cap, cur, f, inner, rfl, hb, h0 g rfl, hh, hnc, hcm, hcs, hl, ht, fun j x u hx hu => ?_⟩
    have hj := hr.2 j (x, j) (by rw [List.getElem?_zipIdx, hx]; simp)
    rw [h1, Nat.mul_one] at hj
    have hd : (inner.drop j).take 1 = [u] := by
      have hlt : j < inner.length := (List.getElem?_eq_some_iff.1 hu).1
      rw [List.drop_eq_getElem_cons hlt]
      have := (List.getElem?_eq_some_iff.1 hu).2
      simp [this]
    rw [hd] at hj
    obtain ⟨v', e, hR⟩ := hj
    injection e with e
    subst e
    exact Kd.R_mono hR (fun k hk => ⟨⟨hk.1.1, fun e => hk.1.2 (by rw [e]; rfl)⟩, hk.2⟩)
/-- And made whole again: the rows in any order, as long as no two have one tag. -/
theorem S_close {g cap : Nat} {cur : Array Value} {us : List Value} {f : Nat → Nat} (τ : Nat → Nat) (hb : base ≤ g) (hok : ok g) (hh : w.heap[g]? = some (.cells cur 25 (0, 0))) (hnc : ys.length ≤ cap) (hcm : cap ≤ maxLen) (hcs : cur.size = cap) (hl : us.length = ys.length) (ht : cur.toList.take ys.length = us)
    (hinj : ∀ i j, i < ys.length → j < ys.length → τ i = τ j → i = j)
    (hR : ∀ (j : Nat) (y : List Int) (u : Value), ys[j]? = some y → us[j]? = some u → Kd.R (Kd.int .i64) 3 w base (fun k => (ok k ∧ k ≠ g) ∧ f k = τ j) u y) : Kd.S D_ 25 w base ok (.slice (some ⟨g, 0, none⟩) ys.length cap) ys := by
  classical
  refine ⟨fun k => if h : ∃ j, j < ys.length ∧ τ j = f k then Classical.choose h else 0, ?_, us, ⟨?_, Or.inr ⟨g, cap, cur, ?_, hb, hh, ?_, hcm, ?_, ?_⟩⟩, ?_, ?_⟩
  · intro k hk
    have : g = k := by simpa [Value.ownBlock] using hk
    exact this ▸ hok
  · rw [List.length_zipIdx]
    show us.length = ys.length * 1
    omega
  · rw [List.length_zipIdx]
  · rw [List.length_zipIdx]
    exact hnc
  · show cur.size = cap * 1
    omega
  · rw [List.length_zipIdx]
    show cur.toList.take (ys.length * 1) = us
    rw [Nat.mul_one]
    exact ht
  · rw [List.length_zipIdx]
    show us.length = ys.length * 1
    omega
  · rintro j ⟨y, q⟩ hj
    have hj' := List.getElem?_eq_some_iff.1 hj
    obtain ⟨hlt, he⟩ := hj'
    rw [List.length_zipIdx] at hlt
    have hy : ys[j]? = some y ∧ q = j := by
      rw [List.getElem_zipIdx] at he
      injection he with e1 e2
      exact ⟨by rw [List.getElem?_eq_getElem hlt, e1], by omega⟩
    obtain ⟨hy, rfl⟩ := hy
    have hul : q < us.length := by omega
    have hd : (us.drop (q * 1)).take 1 = [us[q]] := by
      rw [Nat.mul_one, List.drop_eq_getElem_cons hul]
      rfl
    show (Kd.tag _ D_).M w base _ (y, q) ((us.drop (q * 1)).take 1)
    rw [hd]
    refine ⟨us[q], rfl, Kd.R_mono (hR q y us[q] hy (List.getElem?_eq_getElem hul)) (fun k hk => ⟨⟨hk.1.1, fun e => hk.1.2 (by simpa [Value.ownBlock] using e)⟩, ?_⟩)⟩
    have hex : ∃ j, j < ys.length ∧ τ j = f k := ⟨q, hlt, hk.2.symm⟩
    show (if h : ∃ j, j < ys.length ∧ τ j = f k then Classical.choose h else 0) = q
    rw [dif_pos hex]
    have hs := Classical.choose_spec hex
    exact hinj _ _ hs.1 hlt (hs.2.trans hk.2)
theorem cmp_call {W : World} {ok1 ok2 : Nat → Prop} {u1 u2 : Value} {x1 x2 : List Int} (R1 : Kd.R (Kd.int .i64) 3 W base ok1 u1 x1) (R2 : Kd.R (Kd.int .i64) 3 W base ok2 u2 x2) (hx : x1.length < 4611686018427387904) : Calls Try.prog 158 #[u1, u2] W fun e w' => e = .returned (.int .i64 (cmpL x1 x2)) ∧ Drawn0 W w' := by
  obtain ⟨A1, c1, rfl⟩ := Kd.R_slice R1
  obtain ⟨A2, c2, rfl⟩ := Kd.R_slice R2
  exact slices_Compare_int_int.calls (x1.length + 1) A1 c1 x1 A2 c2 x2 (cmpL x1 x2) W (Kd.R_reads' R1).2.2 (Kd.R_reads' R1).2.1 (Kd.R_reads' R2).2.2 (Kd.R_reads' R2).2.1 (compare_is x1 x2 hx)
theorem sortfunc_S {w0 : World} (hB : Below w0.heap.size w0 w) (h : Kd.S D_ 25 w w0.heap.size ok v xs) (hp : 0 < xs.length) (hn : xs.length < 4611686018427387904) (hx : ∀ x ∈ xs, x.length < 4611686018427387904) :
    Calls Try.prog 180 #[v, .func (.func 158) #[] #[]] w fun e w' => e = .returned (.tuple #[]) ∧ ∃ ys : List (List Int), ys.Perm xs ∧ ys.Pairwise (fun a b => ¬ cmpL b a < 0) ∧ Kd.S D_ 25 w' w0.heap.size ok v ys ∧ Below w0.heap.size w0 w' := by
  obtain ⟨g, cap, cur, f, us, rfl, hb, hok, hh, hnc, hcm, hcs, hul, ht, hR⟩ := S_open h hp
  let enc : Nat → Value := fun i => us.getD i (.slice none 0 0)
  let X : Nat → List Int := fun i => xs.getD i []
  let cf : Nat → Nat → Int := fun i j => cmpL (X i) (X j)
  let d : Array Nat := (List.range xs.length).toArray
  have hXat : ∀ i, i < xs.length → xs[i]? = some (X i) := fun i hi => by simp [X, List.getD_eq_getElem?_getD, List.getElem?_eq_getElem hi]
  have hEat : ∀ i, i < xs.length → us[i]? = some (enc i) := fun i hi => by simp [enc, List.getD_eq_getElem?_getD, List.getElem?_eq_getElem (show i < us.length by omega)]
  have hXlen : ∀ i, (X i).length < 4611686018427387904 := fun i => by
    rcases Nat.lt_or_ge i xs.length with hi | hi
    · have : X i = xs[i] := by simp [X, List.getD_eq_getElem?_getD, List.getElem?_eq_getElem hi]
      rw [this]
      exact hx _ (List.getElem_mem hi)
    · have : X i = [] := by simp [X, List.getD_eq_getElem?_getD, List.getElem?_eq_none hi]
      rw [this]
      decide
  have hRX : ∀ i, ∃ oki : Nat → Prop, (∀ k, oki k → k ≠ g) ∧ Kd.R (Kd.int .i64) 3 w w0.heap.size oki (enc i) (X i) := fun i => by
    rcases Nat.lt_or_ge i xs.length with hi | hi
    · refine ⟨_, fun k hk => hk.1.2, hR i (X i) (enc i) ?_ ?_⟩
      · simp [X, List.getD_eq_getElem?_getD, List.getElem?_eq_getElem hi]
      · simp [enc, List.getD_eq_getElem?_getD, List.getElem?_eq_getElem (show i < us.length by omega)]
    · have e1 : X i = [] := by simp [X, List.getD_eq_getElem?_getD, List.getElem?_eq_none hi]
      have e2 : enc i = .slice none 0 0 := by simp [enc, List.getD_eq_getElem?_getD, List.getElem?_eq_none (show us.length ≤ i by omega)]
      rw [e1, e2]
      exact ⟨fun _ => False, fun _ h => h.elim, Kd.R_nil _ _ _ _ _⟩
  have hone : Go.Proofs.OneCell enc := fun i => by
    obtain ⟨oki, _, hr⟩ := hRX i
    obtain ⟨A, c, e⟩ := Kd.R_slice hr
    rw [e]
    rfl
  have hd : d.size = xs.length := by simp [d]
  have hdg : ∀ i, i < xs.length → d[i]! = i := fun i hi => by simp [d, hi]
  have hH : Go.Sort.Holds enc w g 0 d := fun j hj => by
    rw [hd] at hj
    refine ⟨?_, by rw [Nat.zero_add]; exact blk_frozen hh j⟩
    rw [Nat.zero_add, blk_cell hh j, hdg j hj, ← Array.getElem?_toList]
    have h3 : (cur.toList.take xs.length)[j]? = us[j]? := by rw [ht]
    rw [List.getElem?_take_of_lt hj] at h3
    rw [h3]
    simp [enc, List.getD_eq_getElem?_getD, List.getElem?_eq_getElem (show j < us.length by omega)]
  have hlt : g < w.heap.size := blk_lt hh
  have hmv : ∀ {oki : Nat → Prop} {u : Value} {x : List Int} (n : Nat) (dk : Array Nat) (os : Array Obj), (∀ k, oki k → k ≠ g) → Kd.R (Kd.int .i64) 3 w w0.heap.size oki u x → Kd.R (Kd.int .i64) 3 (srt enc w g n dk os) w0.heap.size oki u x := fun n dk os hne hr => Kd.R_step hr (fun k hk hl => srt_old enc n dk os hl (hne k hk))
  have hcmp : Go.Proofs.CmpLays1 Try.prog 158 #[] enc cf g 0 d.size w := by
    intro m os dk hs x y
    obtain ⟨o1, n1, r1⟩ := hRX x
    obtain ⟨o2, n2, r2⟩ := hRX y
    have hc := cmp_call (hmv m dk os n1 r1) (hmv m dk os n2 r2) (hXlen x)
    refine Calls.mono hc ?_
    rintro e w' ⟨rfl, q, rfl⟩
    exact ⟨rfl, q, #[], (Go.Sort.grow_empty _).symm⟩
  have hO : Go.Sort.SWO (Go.Proofs.ltOf cf) := by
    refine ⟨fun x => ?_, fun x y z h1 h2 => ?_, fun x y z h1 h2 => ?_⟩
    · simp [Go.Proofs.ltOf, cf, cmpL_self]
    · simp only [Go.Proofs.ltOf, decide_eq_true_eq] at *
      exact cmpL_trans _ _ _ h1 h2
    · simp only [Go.Proofs.ltOf, decide_eq_false_iff_not] at *
      exact cmpL_ntrans _ _ _ h1 h2
  have eg : ∀ args w, (callFunc 158 args).run Try.prog w = .ok (.enter 158 args) w := enters_of Try.func158 (by kernel_rfl) rfl
  have hcon := Any.slices_SortFunc Try.sortF enc hone cf hO 158 #[] g 0 cap d w eg hcmp hH hlt (by omega)
  change Calls Try.prog 180 _ _ _ at hcon
  rw [hd] at hcon
  refine Calls.mono hcon ?_
  rintro e w' ⟨rfl, d', n, os, hperm, hsorted, hw⟩
  have hw' : w' = srt enc w g n d' os := hw
  subst hw'
  have hds : d'.size = xs.length := hperm.1.trans hd
  have hpl : d'.toList.Perm (List.range xs.length) := by
    have := hperm.2.2
    simpa [← hds, d, Array.extract_eq_self_of_le] using this
  refine ⟨rfl, d'.toList.map X, ?_, ?_, ?_, srt_below _ _ _ _ hB hb⟩
  · have h1 := hpl.map X
    have h2 : (List.range xs.length).map X = xs := by
      apply List.ext_getElem?
      intro j
      rcases Nat.lt_or_ge j xs.length with hj | hj
      · simp [X, hj, List.getD_eq_getElem?_getD]
      · simp [hj]
    rw [h2] at h1
    exact h1
  · rw [List.pairwise_map, List.pairwise_iff_getElem]
    intro i j hi hj hij
    have hi' : i < d'.size := by simpa using hi
    have hj' : j < d'.size := by simpa using hj
    have := hsorted i j (Nat.zero_le _) hij (by omega)
    rw [getElem!_pos _ i hi', getElem!_pos _ j hj'] at this
    simpa [Go.Proofs.ltOf, cf] using this
  · have hlen : (d'.toList.map X).length = xs.length := by simp [hds]
    rw [← hlen]
    have hcl : (Go.Sort.putCells enc 0 d' cur).toList.take d'.size = d'.toList.map enc := putCells_take enc d' cur (by omega)
    refine S_close (f := f) (fun j => d'.toList.getD j 0) hb hok (srt_at enc n d' os hh) (by omega) hcm (by rw [putCells_size]; exact hcs) (us := d'.toList.map enc) (by simp) (by rw [hlen, ← hds]; exact hcl) ?_ ?_
    · intro i j hi hj e
      rw [hlen, ← hds] at hi hj
      have hnd : d'.toList.Nodup := hpl.nodup_iff.2 List.nodup_range
      have hi' : i < d'.toList.length := by simpa using hi
      have hj' : j < d'.toList.length := by simpa using hj
      simp only [List.getD_eq_getElem?_getD, List.getElem?_eq_getElem hi', List.getElem?_eq_getElem hj', Option.getD_some] at e
      have hpw := List.pairwise_iff_getElem.1 hnd
      rcases Nat.lt_trichotomy i j with hlt2 | he2 | hlt2
      · exact absurd e (hpw i j hi' hj' hlt2)
      · exact he2
      · exact absurd e.symm (hpw j i hj' hi' hlt2)
    · intro j y u hy hu
      have hj : j < d'.toList.length := by
        have := (List.getElem?_eq_some_iff.1 hy).1
        simpa using this
      rw [List.getElem?_map, List.getElem?_eq_getElem hj] at hy hu
      injection hy with hy
      injection hu with hu
      subst hy hu
      have hmem : d'.toList[j] < xs.length := List.mem_range.1 (hpl.mem_iff.1 (List.getElem_mem hj))
      have hr := hR d'.toList[j] (X d'.toList[j]) (enc d'.toList[j]) (hXat _ hmem) (hEat _ hmem)
      have hr2 := hmv n d' os (fun k hk => hk.1.2) hr
      simpa [List.getD_eq_getElem?_getD, List.getElem?_eq_getElem hj] using hr2
end
section
theorem equal_ev (x y : List Int) (hxy : x.length = y.length) (hx : x.length < 4611686018427387904) : ∀ (n : Nat) (i : Int), 0 ≤ i → i ≤ (x.length : Int) → n = ((x.length : Int) - i).toNat → ∀ k, n + 1 ≤ k → slices_Equal_int_int.l0 k x y (x.length : Int) i = some (decide (x.drop i.toNat = y.drop i.toNat)) := by
  intro n
  induction n with
  | zero =>
    intro i h0 h1 hn k hk
    obtain ⟨k', rfl⟩ : ∃ k', k = k' + 1 := ⟨k - 1, by omega⟩
    rw [slices_Equal_int_int.l0, if_neg (by omega), List.drop_of_length_le (show x.length ≤ i.toNat by omega), List.drop_of_length_le (show y.length ≤ i.toNat by omega)]
    simp
  | succ n ih =>
    intro i h0 h1 hn k hk
    obtain ⟨k', rfl⟩ : ∃ k', k = k' + 1 := ⟨k - 1, by omega⟩
    have hlt : i < (x.length : Int) := by omega
    have hxl : i.toNat < x.length := by omega
    have hyl : i.toNat < y.length := by omega
    rw [slices_Equal_int_int.l0, if_pos hlt, if_pos h0, if_pos hlt, if_pos (show i < (y.length : Int) by omega), List.drop_eq_getElem_cons hxl, List.drop_eq_getElem_cons hyl]
    have e1 : rd x i = x[i.toNat] := by simp [rd, List.getD_eq_getElem?_getD, List.getElem?_eq_getElem hxl]
    have e2 : rd y i = y[i.toNat] := by simp [rd, List.getD_eq_getElem?_getD, List.getElem?_eq_getElem hyl]
    have hw : wrap64 (i + 1) = i + 1 := by unfold wrap64; omega
    have hi := ih (i + 1) (by omega) (by omega) (by omega) k' (by omega)
    rw [show (i + 1).toNat = i.toNat + 1 by omega] at hi
    rw [e1, e2, hw, hi]
    by_cases c : x[i.toNat] = y[i.toNat]
    · rw [if_pos c]
      exact congrArg some (decide_eq_decide.2 ⟨fun h => by rw [c, h], fun h => (List.cons.inj h).2⟩)
    · rw [if_neg c]
      exact congrArg some (decide_eq_false (fun h => c (List.cons.inj h).1)).symm
theorem equal_is (x y : List Int) (hx : x.length < 4611686018427387904) : slices_Equal_int_int.f (x.length + 1) x y = some (decide (x = y)) := by
  unfold slices_Equal_int_int.f
  by_cases h : x.length = y.length
  · rw [if_pos (by omega)]
    have := equal_ev x y h hx x.length 0 (by omega) (by omega) (by omega) (x.length + 1) (by omega)
    simpa using this
  · rw [if_neg (by omega)]
    have : x ≠ y := fun e => h (by rw [e])
    simp [this]
/-- A list of lists as cells: which list stands in which cell. -/
structure Cst (E : Nat → Value) (X : Nat → List Int) (f : Nat → Nat) (w0 : World) (ok : Nat → Prop) (g cap n : Nat) (W : World) (σ : List Nat) : Prop where
  len : σ.length = n
  blk : ∃ cur, W.heap[g]? = some (.cells cur 25 (0, 0)) ∧ cur.size = cap ∧ cur.toList.take n = σ.map E
  rows : ∀ i, i < n → Kd.R (Kd.int .i64) 3 W w0.heap.size (fun k => (ok k ∧ k ≠ g) ∧ f k = i) (E i) (X i)
  below : Below w0.heap.size w0 W
variable {E : Nat → Value} {X : Nat → List Int} {f : Nat → Nat} {w0 : World} {ok : Nat → Prop} {g cap n : Nat} {W : World} {σ : List Nat}
theorem Cst.drewN (h : Cst E X f w0 ok g cap n W σ) (q : Nat) : Cst E X f w0 ok g cap n (W.drewN q) σ := ⟨h.len, h.blk, fun i hi => Kd.R_drewN (h.rows i hi) q, pw_below_drewN h.below q⟩
theorem Cst.cell (h : Cst E X f w0 ok g cap n W σ) (j : Nat) (hj : j < n) : W.cell? ⟨g, j, none⟩ = some (E (σ.getD j 0)) ∧ W.frozen? ⟨g, j, none⟩ = false := by
  obtain ⟨cur, hh, hs, ht⟩ := h.blk
  refine ⟨?_, blk_frozen hh j⟩
  rw [blk_cell hh j, ← Array.getElem?_toList]
  have h3 : (cur.toList.take n)[j]? = (σ.map E)[j]? := by rw [ht]
  rw [List.getElem?_take_of_lt hj] at h3
  rw [h3, List.getElem?_map, List.getD_eq_getElem?_getD, List.getElem?_eq_getElem (show j < σ.length by rw [h.len]; exact hj)]
  rfl
theorem Cst.set (h : Cst E X f w0 ok g cap n W σ) (hg : w0.heap.size ≤ g) (k i : Nat) : Cst E X f w0 ok g cap n (W.setCell ⟨g, k, none⟩ (E i)) (σ.set k i) := by
  obtain ⟨cur, hh, hs, ht⟩ := h.blk
  refine ⟨by rw [List.length_set]; exact h.len, ⟨cur.setIfInBounds k (E i), ?_, by simpa using hs, ?_⟩, fun j hj => Kd.R_far (h.rows j hj) (fun q hq => hq.1.2) _, below_set h.below hg⟩
  · have hlt := (Array.getElem?_eq_some_iff.1 hh).1
    simp [World.setCell, Array.getElem?_modify, hh]
  · rw [Array.toList_setIfInBounds, List.map_set, ← ht, List.take_set]
theorem Cst.clear (hE : E n = .slice none 0 0) (hg : w0.heap.size ≤ g) : ∀ (m k : Nat) (W : World) (σ : List Nat), Cst E X f w0 ok g cap n W σ → k + m ≤ n → ∃ σ', Cst E X f w0 ok g cap n (W.setCells g k (List.replicate m (.slice none 0 0))) σ' ∧ σ'.take k = σ.take k
  | 0, _, _, σ, h, _ => ⟨σ, h, rfl⟩
  | m + 1, k, W, σ, h, hn => by
    have h1 := h.set hg k n
    rw [hE] at h1
    obtain ⟨σ', h2, h3⟩ := Cst.clear hE hg m (k + 1) _ _ h1 (by omega)
    refine ⟨σ', h2, ?_⟩
    have : (σ'.take (k + 1)).take k = ((σ.set k n).take (k + 1)).take k := by rw [h3]
    rw [List.take_take, List.take_take, Nat.min_eq_left (by omega), List.take_set_of_le (Nat.le_refl _)] at this
    exact this
theorem Cst.close (h : Cst E X f w0 ok g cap n W σ) (hg : w0.heap.size ≤ g) (hok : ok g) (hc : n ≤ cap) (hcm : cap ≤ maxLen) (m : Nat) (hm : m ≤ n) (hnd : (σ.take m).Nodup) (hin : ∀ i ∈ σ.take m, i < n) : Kd.S D_ 25 W w0.heap.size ok (.slice (some ⟨g, 0, none⟩) m cap) ((σ.take m).map X) := by
  obtain ⟨cur, hh, hs, ht⟩ := h.blk
  have hlm : (σ.take m).length = m := by rw [List.length_take, h.len]; omega
  have hl : ((σ.take m).map X).length = m := by rw [List.length_map, hlm]
  have key := S_close (w := W) (base := w0.heap.size) (ok := ok) (ys := (σ.take m).map X) (g := g) (cap := cap) (cur := cur) (us := (σ.take m).map E) (f := f) (fun j => (σ.take m).getD j 0) hg hok hh (by omega) hcm hs (by simp) (by
    rw [hl]
    have : (cur.toList.take n).take m = (σ.map E).take m := by rw [ht]
    rw [List.take_take, Nat.min_eq_left hm] at this
    rw [this, List.map_take]) (by
    intro i j hi hj e
    rw [hl] at hi hj
    have hi' : i < (σ.take m).length := by omega
    have hj' : j < (σ.take m).length := by omega
    simp only [List.getD_eq_getElem?_getD, List.getElem?_eq_getElem hi', List.getElem?_eq_getElem hj', Option.getD_some] at e
    have hpw := List.pairwise_iff_getElem.1 hnd
    rcases Nat.lt_trichotomy i j with hlt2 | he2 | hlt2
    · exact absurd e (hpw i j hi' hj' hlt2)
    · exact he2
    · exact absurd e.symm (hpw j i hj' hi' hlt2)) (by
    intro j y u hy hu
    have hj : j < (σ.take m).length := by
      have := (List.getElem?_eq_some_iff.1 hy).1
      simpa using this
    rw [List.getElem?_map, List.getElem?_eq_getElem hj] at hy hu
    injection hy with hy
    injection hu with hu
    subst hy hu
    have hr := h.rows _ (hin _ (List.getElem_mem hj))
    have e : (σ.take m).getD j 0 = (σ.take m)[j] := by rw [List.getD_eq_getElem?_getD, List.getElem?_eq_getElem hj]; rfl
    rw [e]
    exact hr)
  rw [hl] at key
  exact key
theorem Cst.eq_call (h : Cst E X f w0 ok g cap n W σ) (i j : Nat) (hi : i < n) (hj : j < n) (hx : (X i).length < 4611686018427387904) (nd : Nat) (b : Bool) (hb : decide (X i = X j) = b) : Calls Try.prog 182 #[E i, E j] (W.drewN nd) fun e w'' => e = .returned (.bool b) ∧ ∃ m, w'' = W.drewN m := by
  have R1 := (h.drewN nd).rows i hi
  have R2 := (h.drewN nd).rows j hj
  obtain ⟨A1, c1, e1⟩ := Kd.R_slice R1
  obtain ⟨A2, c2, e2⟩ := Kd.R_slice R2
  rw [e1] at R1
  rw [e2] at R2
  rw [e1, e2]
  have hc := slices_Equal_int_int.calls ((X i).length + 1) A1 c1 (X i) A2 c2 (X j) b (W.drewN nd) (Kd.R_reads' R1).2.2 (Kd.R_reads' R1).2.1 (Kd.R_reads' R2).2.2 (Kd.R_reads' R2).2.1 (by rw [equal_is _ _ hx, hb])
  refine Calls.mono hc ?_
  rintro e w' ⟨rfl, q, rfl⟩
  exact ⟨rfl, nd + q, World.drewN_drewN ..⟩
/-- Of the first m lists those that are unlike the one ahead. -/
def kap (X : Nat → List Int) (m : Nat) : List Nat := (List.range m).filter fun j => decide (j = 0) || !decide (X j = X (j - 1))
theorem kap_succ (X : Nat → List Int) (m : Nat) : kap X (m + 1) = kap X m ++ (if decide (m = 0) || !decide (X m = X (m - 1)) then [m] else []) := by
  unfold kap
  rw [List.range_succ, List.filter_append, List.filter_cons, List.filter_nil]
theorem kap_len (X : Nat → List Int) (m : Nat) : (kap X m).length ≤ m := by
  have := List.length_filter_le (fun j => decide (j = 0) || !decide (X j = X (j - 1))) (List.range m)
  rwa [List.length_range] at this
theorem kap_all (X : Nat → List Int) (m : Nat) (h : ∀ j, 0 < j → j < m → X j ≠ X (j - 1)) : kap X m = List.range m := by
  unfold kap
  refine List.filter_eq_self.2 (fun j hj => ?_)
  have := List.mem_range.1 hj
  rcases Nat.eq_zero_or_pos j with h0 | h0
  · simp [h0]
  · simp [h j h0 this]
theorem kap_nodup (X : Nat → List Int) (m : Nat) : (kap X m).Nodup := List.Nodup.sublist (List.filter_sublist) List.nodup_range
theorem kap_lt (X : Nat → List Int) (m : Nat) : ∀ i ∈ kap X m, i < m := fun _ hi => List.mem_range.1 (List.mem_filter.1 hi).1
end
set_option maxHeartbeats 8000000 in
set_option maxRecDepth 100000 in
theorem compact_walk (E : Nat → Value) (X : Nat → List Int) (f : Nat → Nat) (w0 w : World) (ok : Nat → Prop) (g cap n : Nat) (hg : w0.heap.size ≤ g) (hn : 1 ≤ n) (hn' : n ≤ 1048576) (hcap : n ≤ cap) (hXl : ∀ i, (X i).length < 4611686018427387904) (hE : E n = .slice none 0 0) (hC : Cst E X f w0 ok g cap n w (List.range n)) :
    Calls Try.prog 181 #[.slice (some ⟨g, 0, none⟩) n cap, .func (.func 182) #[] #[]] w fun e w' => ∃ (m : Nat) (σ : List Nat), e = .returned (.slice (some ⟨g, 0, none⟩) m cap) ∧ m ≤ n ∧ Cst E X f w0 ok g cap n w' σ ∧ σ.take m = kap X n := by
  have HG := Aside0.mk hg
  have HX := Aside0.mk hXl
  have HE := Aside0.mk hE
  have HC := Aside0.mk hC
  clear hg hXl hE hC
  have hr : ∀ j, j < n → (List.range n).getD j 0 = j := fun j hj => by simp [List.getD_eq_getElem?_getD, hj]
  have HR := Aside0.mk hr
  clear hr
  by_cases h2 : n < 2
  · have e1 : n = 1 := by omega
    subst e1
    go_enter Try.func181, Try.ntmps181
    go_wp2
    go_ret
    refine ⟨1, _, rfl, Nat.le_refl _, HC.out, ?_⟩
    rw [kap_all X 1 (fun j h0 h1 => by omega)]
    simp
  · have h2z : ¬ (n : Int) < 2 := by omega
    go_enter Try.func181, Try.ntmps181
    go_wp2
    go_loopg [5] n (fun kq v5 wr => ∃ (k : Nat), v5 = .int .i64 k ∧ 1 ≤ k ∧ k ≤ n ∧ n - k ≤ kq ∧ Aside0 (∀ j, 0 < j → j < k → X j ≠ X (j - 1)) ∧ Aside0 (Cst E X f w0 ok g cap n wr (List.range n)))
    case atStart => exact ⟨1, by first | rfl | go_num, by omega, by omega, by omega, ⟨fun j h0 h1 => by omega⟩, HC⟩
    case round =>
      clear HC
      obtain ⟨k, rfl, hk1, hkn, hq, HV, HC⟩ := hrel
      by_cases hlt : k < n
      · have hltz : (k : Int) < (n : Int) := by omega
        obtain ⟨km, hkm⟩ : ∃ km, k = km + 1 := ⟨k - 1, by omega⟩
        have hmlt : km < n := by omega
        have hmltz : (km : Int) < (n : Int) := by omega
        have hwm : IntKind.i64.wrap ((k : Int) - 1) = (km : Int) := by rw [IntKind.wrap_i64]; omega
        have HKM := Aside0.mk hkm
        have hx1 : wr.cell? ⟨g, k, none⟩ = some (E k) := by have := (HC.out.cell k hlt).1; rwa [HR.out k hlt] at this
        have hx2 : wr.cell? ⟨g, km, none⟩ = some (E km) := by have := (HC.out.cell km hmlt).1; rwa [HR.out km hmlt] at this
        clear hkm
        by_cases he : X k = X km
        · have HEQ := Aside0.mk (decide_eq_true he)
          have HE2 := Aside0.mk he
          clear he
          go_wp2
          repeat (go_quiet (first | (go_at_call 182; refine HC.out.eq_call k km ‹_› ‹_› (HX.out _) _ true HEQ.out)); try go_wp2)
          have hk0 : kap X (k + 1) = (List.range n).take k := by
            rw [kap_succ, kap_all X k HV.out, List.take_range, Nat.min_eq_left hkn]
            have e1 : k - 1 = km := by have := HKM.out; omega
            rw [e1]
            have e2 : decide (k = 0) = false := decide_eq_false (by omega)
            simp [e2, HE2.out]
          have HK0 := Aside0.mk hk0
          clear hk0
          have HC1 := Aside0.mk (HC.out.drewN nq)
          clear hx1 hx2
          go_loopg [5, 7] n (fun kq v5 v7 wr => ∃ (m k2 : Nat) (σ : List Nat), v5 = .int .i64 m ∧ v7 = .int .i64 k2 ∧ 1 ≤ k2 ∧ k + k2 ≤ n ∧ n - k2 ≤ kq ∧ m + 1 ≤ k + k2 ∧ Aside0 (σ.take m = kap X (k + k2)) ∧ Aside0 (∀ j, k + k2 ≤ j + 1 → j < n → σ.getD j 0 = j) ∧ Aside0 (Cst E X f w0 ok g cap n wr σ))
          case atStart => exact ⟨k, 1, List.range n, by first | rfl | go_num, by first | rfl | go_num, by omega, by omega, by omega, by omega, ⟨HK0.out.symm⟩, ⟨fun j _ h1 => HR.out j h1⟩, HC1⟩
          case round =>
            clear HC1 HC
            obtain ⟨m, k2, σ, rfl, rfl, hk21, hk2n, hq2, hm, HT, HS, HC⟩ := hrel
            have hmn : m < n := by omega
            have hmnz : (m : Int) < (n : Int) := by omega
            by_cases hlt2 : k + k2 < n
            · have hlt2a : k2 < n - k := by omega
              have hlt2z : (k2 : Int) < ((n - k : Nat) : Int) := by omega
              obtain ⟨k2m, hk2m⟩ : ∃ k2m, k2 = k2m + 1 := ⟨k2 - 1, by omega⟩
              have hlt3a : k2m < n - k := by omega
              have hlt3z : (k2m : Int) < ((n - k : Nat) : Int) := by omega
              have hwm2 : IntKind.i64.wrap ((k2 : Int) - 1) = (k2m : Int) := by rw [IntKind.wrap_i64]; omega
              have HK2M := Aside0.mk hk2m
              have hy1 : wr.cell? ⟨g, k + k2, none⟩ = some (E (k + k2)) := by have := (HC.out.cell (k + k2) hlt2).1; rwa [HS.out (k + k2) (by omega) hlt2] at this
              have hy2 : wr.cell? ⟨g, k + k2m, none⟩ = some (E (k + k2m)) := by have := (HC.out.cell (k + k2m) (by omega)).1; rwa [HS.out (k + k2m) (by omega) (by omega)] at this
              have hy3 := (HC.out.cell m hmn).1
              have hy4 := (HC.out.cell m hmn).2
              clear hk2m
              have hb1 : k + k2 < n := hlt2
              have hb2 : k + k2m < n := by have := HK2M.out; omega
              by_cases he : X (k + k2) = X (k + k2m)
              · have HEQ := Aside0.mk (decide_eq_true he)
                have HE2 := Aside0.mk he
                clear he
                go_wp2
                repeat (go_quiet (first | (go_at_call 182; refine HC.out.eq_call (k + k2) (k + k2m) ‹_› ‹_› (HX.out _) _ true HEQ.out)); try go_wp2)
                go_roundg (n - (k2 + 1))
                case measure => omega
                case rel => exact ⟨m, k2 + 1, σ, by first | rfl | go_num, by first | rfl | go_num, by omega, by omega, by omega, by omega, ⟨by rw [← Nat.add_assoc, kap_succ, HT.out, show k + k2 - 1 = k + k2m by have := HK2M.out; omega, decide_eq_true HE2.out, show (decide (k + k2 = 0) || !true) = false by rw [decide_eq_false (show ¬ k + k2 = 0 by omega)]; rfl]; simp⟩, ⟨fun j h1 h3 => HS.out j (by omega) h3⟩, ⟨HC.out.drewN _⟩⟩
              · have HEQ := Aside0.mk (decide_eq_false he)
                have HE2 := Aside0.mk he
                clear he
                obtain ⟨A_, c_, hE_⟩ := Kd.R_slice (HC.out.rows (k + k2) hlt2)
                have hqc := fun nd => HC.out.eq_call (k + k2) (k + k2m) hb1 hb2 (HX.out _) nd false HEQ.out
                rw [hE_] at hqc hy1
                have HQC := Aside0.mk hqc
                have HE_ := Aside0.mk hE_
                clear hqc hE_
                go_wp2
                repeat (go_quiet (first | (go_at_call 182; exact HQC.out _)); try go_wp2)
                go_roundg (n - (k2 + 1))
                case measure => omega
                case rel =>
                  refine ⟨m + 1, k2 + 1, σ.set m (k + k2), by first | rfl | go_num, by first | rfl | go_num, by omega, by omega, by omega, by omega, ⟨?_⟩, ⟨fun j h1 h3 => ?_⟩, ⟨by have h_ := (HC.out.drewN nq).set HG.out m (k + k2); rw [HE_.out] at h_; exact h_⟩⟩
                  · rw [← Nat.add_assoc, kap_succ, ← HT.out, show k + k2 - 1 = k + k2m by have := HK2M.out; omega, decide_eq_false HE2.out]
                    have hl := HC.out.len
                    rw [List.take_succ_eq_append_getElem (by rw [List.length_set, hl]; exact hmn), List.take_set_of_le (Nat.le_refl _), List.getElem_set_self]
                    simp
                  · have := HS.out j (by omega) h3
                    rw [List.getD_eq_getElem?_getD, List.getElem?_set_ne (by omega), ← List.getD_eq_getElem?_getD]
                    exact this
            · have hlt2z : ¬ (k2 : Int) < ((n - k : Nat) : Int) := by omega
              have hlt2a : ¬ k2 < n - k := by omega
              have hcl : ∀ ty, (Builtin.clear_ #[27] ty #[.slice (some ⟨g, m, none⟩) (n - m) (cap - m)]).run Try.prog wr = .ok (.tuple #[]) (wr.setCells g m (List.replicate (n - m) (.slice none 0 0))) :=
                fun ty => Lib.run_clear_slice wr _ _ ty _ Try.underlying27 (fun w => by kernel_rfl) rfl rfl g m _ _ (by omega) (fun t ht => by rw [(HC.out.cell (m + t) (by omega)).1]; rfl) (fun t ht => (HC.out.cell (m + t) (by omega)).2)
              obtain ⟨σ', hC', ht'⟩ := Cst.clear HE.out HG.out (n - m) m wr σ HC.out (by omega)
              have HC' := Aside0.mk hC'
              have HT' := Aside0.mk ht'
              clear hC' ht'
              go_wp2
              go_ret
              exact ⟨m, rfl, by omega, σ', HC'.out, by rw [HT'.out, HT.out]; congr 1; omega⟩
        · have HEQ := Aside0.mk (decide_eq_false he)
          have HE2 := Aside0.mk he
          clear he
          go_wp2
          repeat (go_quiet (first | (go_at_call 182; refine HC.out.eq_call k km ‹_› ‹_› (HX.out _) _ false HEQ.out)); try go_wp2)
          go_roundg (n - (k + 1))
          case measure => omega
          case rel =>
            refine ⟨k + 1, by first | rfl | go_num, by omega, by omega, Nat.le_refl _, ⟨fun j h0 h1 => ?_⟩, ⟨HC.out.drewN _⟩⟩
            rcases Nat.lt_or_ge j k with h | h
            · exact HV.out j h0 h
            · have e1 : j = k := by omega
              subst e1
              rw [show j - 1 = km by have := HKM.out; omega]
              exact HE2.out
      · have hltz : ¬ (k : Int) < (n : Int) := by omega
        obtain rfl : k = n := by omega
        go_wp2
        go_ret
        refine ⟨k, rfl, Nat.le_refl _, _, HC.out, ?_⟩
        rw [kap_all X k HV.out, List.take_of_length_le (by simp)]
section
/-- The lists that are left of an ascending list of lists. -/
def compL (ys : List (List Int)) : List (List Int) := (kap (fun i => ys.getD i []) ys.length).map fun i => ys.getD i []
theorem compact_S {w w0 : World} {ok : Nat → Prop} {v : Value} {ys : List (List Int)} (hB : Below w0.heap.size w0 w) (h : Kd.S D_ 25 w w0.heap.size ok v ys) (hp : 0 < ys.length) (hn : ys.length ≤ 1048576) (hx : ∀ x ∈ ys, x.length < 4611686018427387904) :
    Calls Try.prog 181 #[v, .func (.func 182) #[] #[]] w fun e w' => ∃ v' : Value, e = .returned v' ∧ Kd.S D_ 25 w' w0.heap.size ok v' (compL ys) ∧ Below w0.heap.size w0 w' := by
  obtain ⟨g, cap, cur, f, us, rfl, hb, hok, hh, hnc, hcm, hcs, hul, ht, hR⟩ := S_open h hp
  have hX : ∀ i, i < ys.length → ys[i]? = some (ys.getD i []) := fun i hi => by simp [List.getD_eq_getElem?_getD, List.getElem?_eq_getElem hi]
  have hE : ∀ i, i < ys.length → us[i]? = some (us.getD i (.slice none 0 0)) := fun i hi => by simp [List.getD_eq_getElem?_getD, List.getElem?_eq_getElem (show i < us.length by omega)]
  have hXl : ∀ i, (ys.getD i []).length < 4611686018427387904 := fun i => by
    rcases Nat.lt_or_ge i ys.length with hi | hi
    · exact hx _ (List.mem_of_getElem? (hX i hi))
    · rw [List.getD_eq_getElem?_getD, List.getElem?_eq_none hi]
      decide
  have hC : Cst (fun i => us.getD i (.slice none 0 0)) (fun i => ys.getD i []) f w0 ok g cap ys.length w (List.range ys.length) := by
    refine ⟨List.length_range, ⟨cur, hh, hcs, ?_⟩, fun i hi => hR i _ _ (hX i hi) (hE i hi), hB⟩
    rw [ht]
    apply List.ext_getElem?
    intro j
    rcases Nat.lt_or_ge j ys.length with hj | hj
    · rw [hE j hj]
      simp [hj]
    · rw [List.getElem?_eq_none (by omega), List.getElem?_eq_none (by simp; omega)]
  have hw := compact_walk (fun i => us.getD i (.slice none 0 0)) (fun i => ys.getD i []) f w0 w ok g cap ys.length hb hp hn hnc hXl (by rw [List.getD_eq_getElem?_getD, List.getElem?_eq_none (by omega)]; rfl) hC
  refine Calls.mono hw ?_
  rintro e w' ⟨m, σ, rfl, hm, hC', hk⟩
  refine ⟨_, rfl, ?_, hC'.below⟩
  have := hC'.close hb hok hnc hcm m hm (by rw [hk]; exact kap_nodup _ _) (by rw [hk]; exact kap_lt _ _)
  rw [hk] at this
  exact this
/-- Is a list no later than another one. -/
def leL (a b : List Int) : Bool := !decide (cmpL b a < 0)
/-- What copMoves makes of the lists that it has gathered. -/
def tailL (xs : List (List Int)) : List (List Int) := compL ((xs.map sortL).mergeSort leL)
def tailF (xs : List (List Int)) : Option (List (List Int)) := if xs.length ≤ 1048576 ∧ 0 < xs.length ∧ ∀ x ∈ xs, 0 < x.length ∧ x.length < 4611686018427387904 then some (tailL xs) else none
theorem tail_some {xs r : List (List Int)} (h : tailF xs = some r) : xs.length ≤ 1048576 ∧ 0 < xs.length ∧ (∀ x ∈ xs, 0 < x.length ∧ x.length < 4611686018427387904) ∧ r = tailL xs := by
  unfold tailF at h
  split at h
  · rename_i hc
    exact ⟨hc.1, hc.2.1, hc.2.2, (Option.some.inj h).symm⟩
  · cases h
theorem sorted_is {xs ys : List (List Int)} (hp : ys.Perm xs) (hs : ys.Pairwise (fun a b => ¬ cmpL b a < 0)) : ys = xs.mergeSort leL := by
  refine List.Perm.eq_of_pairwise (le := fun a b => ¬ cmpL b a < 0) (fun a b _ _ h1 h2 => cmpL_eq a b h2 h1) hs ?_ (hp.trans (List.mergeSort_perm xs leL).symm)
  refine (List.pairwise_mergeSort (le := leL) (fun a b c h1 h2 => ?_) (fun a b => ?_) xs).imp (fun h => ?_)
  · simp only [leL, Bool.not_eq_true', decide_eq_false_iff_not] at *
    exact cmpL_ntrans c b a h2 h1
  · simp only [leL, Bool.or_eq_true, Bool.not_eq_true', decide_eq_false_iff_not]
    by_cases h : cmpL b a < 0
    · exact Or.inr (fun h' => absurd (cmpL_trans b a b h h') (by rw [cmpL_self]; decide))
    · exact Or.inl h
  · simpa [leL] using h
theorem set_step (a : List (List Int)) (f : List Int → List Int) (i : Nat) (h : i < a.length) {xs : List (List Int)} (hx : xs = (a.take i).map f ++ a.drop i) : xs.getD i [] = a[i] ∧ xs.set i (f (xs.getD i [])) = (a.take (i + 1)).map f ++ a.drop (i + 1) := by
  have hl : ((a.take i).map f).length = i := by rw [List.length_map, List.length_take]; omega
  have e : xs.getD i [] = a[i] := by
    rw [hx, List.getD_eq_getElem?_getD, List.getElem?_append_right (by omega), hl, Nat.sub_self, List.drop_eq_getElem_cons h]
    rfl
  refine ⟨e, ?_⟩
  rw [e, hx, List.set_append_right _ _ (by omega), hl, Nat.sub_self, List.take_succ_eq_append_getElem h, List.map_append, List.append_assoc]
  congr 1
  rw [List.drop_eq_getElem_cons h]
  rfl
end
end Go.Proofs.Ytcjddikalgnhpaa.P
namespace Go.Proofs.Ytcjddikalgnhpaa.P
open Go.RowKit Go.Proofs.YtcjddikalgnhpaaW.PrintWords Go.Proofs.YtcjddikalgnhpaaW.PrintLast Go.Proofs.YtcjddikalgnhpaaW.PrintMore
attribute [local go_sem] max2_int min2_int max_two min_two max_three min_three max_four min_four   -- for this text's walks alone
set_option linter.unusedVariables false
set_option linter.unusedSimpArgs false
/-! ### impl_setOf: function 122 -/
def impl_setOf.l0 : Nat → Int → List Int → Int → Option (List Int)
 | 0, _, _, _ => none
 | k + 1, x0, x3, x4 => if 0 ≤ x4 then (if (shr .i64 x0 x4) = 0 then (some x3) else (if (Go.bits .and .i64 (shr .i64 x0 x4) 1) = 1 then (if x3.length < 17592186044416 then (impl_setOf.l0 k x0 (x3 ++ [x4]) (wrap64 (x4 + 1))) else (none)) else (impl_setOf.l0 k x0 x3 (wrap64 (x4 + 1))))) else (none)
def impl_setOf.f (k : Nat) (a0 : Int) : Option (List Int) := impl_setOf.l0 k a0 ([] : List Int) 0
theorem impl_setOf.mono_l : ∀ k, (∀ y0 y1 y2, LeO (impl_setOf.l0 k y0 y1 y2) (impl_setOf.l0 (k + 1) y0 y1 y2))
 | 0 => fun _ _ _ r h => by simp [impl_setOf.l0] at h
 | k + 1 => by
  have ih0 := impl_setOf.mono_l k
  all_goals
   intros
   first | unfold impl_setOf.l0
   repeat' first | (with_reducible first | exact ih0 _ _ _ | exact LeO.refl _ | exact LeO.none _ | refine LeO.ite ?_ ?_ | refine LeO.bind ?_ (fun _ => ?_))
theorem impl_setOf.mono : ∀ a0 k, LeO (impl_setOf.f k a0) (impl_setOf.f (k + 1) a0) := by
 intro a0 k
 have ih0 := impl_setOf.mono_l k
 unfold impl_setOf.f
 repeat' first | (with_reducible first | exact ih0 _ _ _ | exact LeO.refl _ | exact LeO.none _ | refine LeO.ite ?_ ?_ | refine LeO.bind ?_ (fun _ => ?_))
set_option maxHeartbeats 8000000 in
set_option maxRecDepth 100000 in
theorem impl_setOf.calls (k : Nat) (a0 : Int) (r : List Int) (w : World) (h : impl_setOf.f k a0 = some r) :
  Calls Try.prog 122 #[.int .i64 a0] w fun e w' => ∃ v0_ : Value, e = .returned (v0_) ∧ Kd.R (Kd.int .i64) 3 w' w.heap.size (fun _ => True) v0_ r ∧ Below w.heap.size w w' := by
 have HB := am (Below.refl w.heap.size w)
 have H : (impl_setOf.l0 k a0 ([] : List Int) 0) = some r := h
 clear h
 have H' := Aside0.mk H
 clear H
 go_enter Try.func122, Try.ntmps122
 go_wp2
 go_loopg [3, 4] k (fun kq v3 v4 w' => ∃ (x3_1 : List Int) (x4_1 : Int), v4 = .int .i64 x4_1 ∧ Aside0 (impl_setOf.l0 kq a0 x3_1 x4_1 = some r) ∧ Aside0 (kq ≤ k) ∧ Aside0 (Kd.R (Kd.int .i64) 3 w' w.heap.size (fun _ => True) v3 x3_1) ∧ Aside0 (Below w.heap.size w w'))
 case atStart => exact ⟨(([] : List Int)), (0), Q8, H', ⟨Nat.le_refl _⟩, ⟨by first | exact Kd.R_nil _ _ _ _ _ | exact Kd.N_nil _ _ _ _ _ | exact Kd.V_nil _ _ _ _ _ | exact Kd.Q_nil _ _ _ _ _ | exact Kd.S_nil _ _ _ _ _⟩, ⟨Q0 HB⟩⟩
 case round =>
  clear H'
  try clear c1
  obtain ⟨x3_1, x4_1, rfl, HA, HK1, HO_3, HB⟩ := hrel
  cases gk with
  | zero => exact absurd HA.out (by simp [impl_setOf.l0])
  | succ k1 =>
   have H := HA.out; clear HA
   simp only [impl_setOf.l0] at H
   by_cases c2 : 0 ≤ x4_1
   ·rw [if_pos c2] at H
    have c2b0 := eq_true c2; have c2b1 := decide_eq_true c2; clear c2; obtain ⟨ji3, hji3⟩ : ∃ j_ : Int, (shr .i64 a0 x4_1) = j_ := ⟨_, rfl⟩; replace H : (if (ji3) = 0 then (some x3_1) else (if (Go.bits .and .i64 (ji3) 1) = 1 then (if x3_1.length < 17592186044416 then (impl_setOf.l0 k1 a0 (x3_1 ++ [x4_1]) (wrap64 (x4_1 + 1))) else (none)) else (impl_setOf.l0 k1 a0 x3_1 (wrap64 (x4_1 + 1))))) = some r := by first | (rw [hji3] at H; exact H) | (simp only [hji3] at H ⊢; exact H)
    have hji3_ : (a0 / 2 ^ min x4_1.toNat 64) = ji3 := hji3; have hji3z : x4_1 ≤ 64 → (a0 / 2 ^ x4_1.toNat) = ji3 := shr_small hji3
    by_cases c4 : (ji3) = 0
    ·rw [if_pos c4] at H
     have c4b0 := beq_iff_eq.mpr c4; have c4b1 := bne_eq_false_iff_eq.mpr c4; clear c4; obtain rfl := Option.some.inj H
     go_wp2
     go_ret
     exact ⟨_, by first | rfl | (simp [errW_none, errW_some] <;> rfl) | (simp only [← hji3]; first | rfl | (simp [errW_none, errW_some] <;> rfl)) | (simp [*, errW_none, errW_some] <;> rfl), Q7, Q0 HB⟩
    ·rw [if_neg c4] at H
     have c4b0 := beq_eq_false_iff_ne.mpr c4; have c4b1 := bne_iff_ne.mpr c4; have c5b0 := eq_true (of_decide_eq_true Q4 : 0 ≤ x4_1)
     by_cases c6 : (Go.bits .and .i64 (ji3) 1) = 1
     ·rw [if_pos c6] at H
      have c6b0 := beq_iff_eq.mpr c6; have c6b1 := bne_eq_false_iff_eq.mpr c6; clear c6
      by_cases c7 : x3_1.length < 17592186044416
      ·rw [if_pos c7] at H
       have LMc7 := Aside0.mk c7; clear c7; obtain ⟨y101, hy101⟩ : ∃ y_ : List Int, y_ = (x3_1 ++ [x4_1]) := ⟨_, rfl⟩; replace H : (impl_setOf.l0 k1 a0 y101 (wrap64 (x4_1 + 1))) = some r := RH hy101 H; have Ny101 := Aside0.mk hy101; clear hy101; have H' := Aside0.mk H; clear H
       go_wp2_with (first | ((with_reducible refine gate_builtin (b := .append) (xs := #[.tmp 16, .tmp 18]) rfl ?_); at_builtin; refine Kd.R_append (Kd.int .i64) (w0 := w) w.heap.size rfl (.tmp 16) (.tmp 18) 25 3 (.int .i64 0) 8 rfl Try.underlying25 info3 rfl (by decide) (by omega) u3 x3_1 x4_1 [.int .i64 x4_1] (fun _ => True) (fun _ => False) rfl rfl ?aP (fun _ hk => hk.elim) ?aF ?aO ?aB ?aS ?aL ?_; (case aP => exact rfl); (case aB => exact (Q0 HB)); (case aF => exact (fun _ _ => trivial)); (case aO => exact Q7); (case aS => exact (below_size (Q0 HB))); (case aL => have := LMc7.out; omega); intro v102 w8 ho hb hg hat; rw [← Ny101.out] at ho; replace HB := am (hb); have HO103 := am (ho); clear HO_3; clear ho hb hg hat))
       go_roundg k1
       case measure => have := HK1.out; omega
       case rel => exact ⟨(y101), (wrap64 (x4_1 + 1)), Q8, H', ⟨Q39⟩, ⟨Q2 HO103⟩, ⟨Q0 HB⟩⟩
      ·rw [if_neg c7] at H
       exact absurd H (by simp)
     ·rw [if_neg c6] at H
      have c6b0 := beq_eq_false_iff_ne.mpr c6; have c6b1 := bne_iff_ne.mpr c6; have H' := Aside0.mk H; clear H
      go_wp2
      go_roundg k1
      case measure => have := HK1.out; omega
      case rel => exact ⟨(x3_1), (wrap64 (x4_1 + 1)), Q8, H', ⟨Q39⟩, ⟨Q7⟩, ⟨Q0 HB⟩⟩
   ·rw [if_neg c2] at H
    exact absurd H (by simp)
/-! ### impl_net_closed: function 177 -/
def impl_net_closed.f (l0_0 : List Int) (a1 : Int) : Option (Int) := if 0 ≤ a1 then (if a1 < (l0_0.length : Int) then (some (Go.bits .or .i64 (rd l0_0 a1) (shl .i64 1 a1))) else (none)) else (none)
set_option maxHeartbeats 8000000 in
set_option maxRecDepth 100000 in
theorem impl_net_closed.calls (A0_0 : Option Addr) (c0_0 : Nat) (l0_0 : List Int) (a1 : Int) (r : Int) (w : World) (hr0_0 : Kd.C (Kd.int .i64) w A0_0 l0_0.length l0_0) (hc0_0 : l0_0.length ≤ c0_0) (h : impl_net_closed.f l0_0 a1 = some r) :
  Calls Try.prog 177 #[.agg #[.slice A0_0 l0_0.length c0_0], .int .i64 a1] w fun e w' => e = .returned (.int .i64 r) ∧ Below w.heap.size w w' := by
 have hu90 := Try.underlying90
 have HR0_0 := Aside0.mk hr0_0
 have HC0_0 := Aside0.mk hc0_0
 clear hr0_0 hc0_0
 have HB := am (Below.refl w.heap.size w)
 have H : (if 0 ≤ a1 then (if a1 < (l0_0.length : Int) then (some (Go.bits .or .i64 (rd l0_0 a1) (shl .i64 1 a1))) else (none)) else (none)) = some r := h
 clear h
 by_cases c3 : 0 ≤ a1
 ·rw [if_pos c3] at H
  have c3b0 := decide_eq_true c3; clear c3
  by_cases c4 : a1 < (l0_0.length : Int)
  ·rw [if_pos c4] at H
   have c4b0 : decide (a1 < (l0_0.length : Int)) = true := decide_eq_true c4; clear c4; have c5b0 := eq_true (of_decide_eq_true Q4 : 0 ≤ a1); obtain ⟨ji6, hji6⟩ : ∃ j_ : Int, (shl .i64 1 a1) = j_ := ⟨_, rfl⟩; replace H : (some (Go.bits .or .i64 (rd l0_0 a1) (ji6))) = some r := by first | (rw [hji6] at H; exact H) | (simp only [hji6] at H ⊢; exact H)
   have hji6_ : (IntKind.i64.wrap (1 * 2 ^ min a1.toNat 64)) = ji6 := hji6; have hji6z : a1 ≤ 64 → (IntKind.i64.wrap (1 * 2 ^ a1.toNat)) = ji6 := shl_small hji6; have hji6u : (IntKind.i64.wrap (2 ^ min a1.toNat 64)) = ji6 := by have h_ := hji6_; rw [Int.one_mul] at h_; exact h_
   have hji6v : a1 ≤ 64 → (IntKind.i64.wrap (2 ^ a1.toNat)) = ji6 := fun hle_ => by have h_ := hji6z hle_; rw [Int.one_mul] at h_; exact h_
   have hji6y : (wrap64 (1 * 2 ^ min a1.toNat 64)) = ji6 := (i64_w _).symm.trans hji6_; have hji6x : a1 ≤ 64 → (wrap64 (1 * 2 ^ a1.toNat)) = ji6 := fun h_ => (i64_w _).symm.trans (hji6z h_)
   obtain rfl := Option.some.inj H
   go_enter Try.func177, Try.ntmps177
   go_wp2_with (first | ((with_reducible refine gate_dst (N := 2) rfl ?_); refine box_event ?hg (N := 2) ?hd (cs := #[.slice A0_0 l0_0.length c0_0]) (t := 90) ?hr ?_; (case hd => rfl); (case hg => rfl); (case hr => first | (go_simp; done) | (go_simp; rfl)); intro gb101 hg w7 hbox hb; have BK101 := am (hbox); have GW101 := am ((Q26 : w.heap.size ≤ gb101)); have GE101 := am ((Q26 : w.heap.size ≤ gb101)); replace HB := am (below_step (Q0 HB) hb); clear hb hbox hg; have hcz8_0 : w7.cell? ⟨gb101, 0, none⟩ = some (.slice A0_0 l0_0.length c0_0) := (blk_cell BK101.out 0).trans rfl; have hfz8_0 := blk_frozen BK101.out 0; have p102 : 0 ≤ (a1 : Int) := of_decide_eq_true Q4; have q102 : a1 < (l0_0.length : Int) := of_decide_eq_true Q4; obtain ⟨ad102, e102, hx102_0⟩ := Kd.at_int HR0_0.out a1 p102 q102; cases e102; replace hx102_0 := (HB.out.cell (World.block_lt_of_cell? w _ hx102_0)).trans hx102_0; replace p102 := eq_true p102; replace q102 := eq_true q102))
   repeat (go_quiet (first | ((with_reducible refine gate_dst (N := 2) rfl ?_); refine box_event ?hg (N := 2) ?hd (cs := #[.slice A0_0 l0_0.length c0_0]) (t := 90) ?hr ?_; (case hd => rfl); (case hg => rfl); (case hr => first | (go_simp; done) | (go_simp; rfl)); intro gb101 hg w7 hbox hb; have n0_ := am (below_step (Q0 HB) hb); have n1_ := am (hbox); have n2_ := am ((Q26 : w.heap.size ≤ gb101)); have n3_ := am ((Q26 : w.heap.size ≤ gb101)); replace HB := n0_; have BK101 := n1_; have GW101 := n2_; have GE101 := n3_; clear n0_ n1_ n2_ n3_; clear hb hbox hg; have hcz8_0 : w7.cell? ⟨gb101, 0, none⟩ = some (.slice A0_0 l0_0.length c0_0) := (blk_cell BK101.out 0).trans rfl; have hfz8_0 := blk_frozen BK101.out 0; have p102 : 0 ≤ (a1 : Int) := of_decide_eq_true Q4; have q102 : a1 < (l0_0.length : Int) := of_decide_eq_true Q4; obtain ⟨ad102, e102, hx102_0⟩ := Kd.at_int HR0_0.out a1 p102 q102; cases e102; replace hx102_0 := (HB.out.cell (World.block_lt_of_cell? w _ hx102_0)).trans hx102_0; replace p102 := eq_true p102; replace q102 := eq_true q102)); try go_wp2_with (first | ((with_reducible refine gate_dst (N := 2) rfl ?_); refine box_event ?hg (N := 2) ?hd (cs := #[.slice A0_0 l0_0.length c0_0]) (t := 90) ?hr ?_; (case hd => rfl); (case hg => rfl); (case hr => first | (go_simp; done) | (go_simp; rfl)); intro gb101 hg w7 hbox hb; have BK101 := am (hbox); have GW101 := am ((Q26 : w.heap.size ≤ gb101)); have GE101 := am ((Q26 : w.heap.size ≤ gb101)); replace HB := am (below_step (Q0 HB) hb); clear hb hbox hg; have hcz8_0 : w7.cell? ⟨gb101, 0, none⟩ = some (.slice A0_0 l0_0.length c0_0) := (blk_cell BK101.out 0).trans rfl; have hfz8_0 := blk_frozen BK101.out 0; have p102 : 0 ≤ (a1 : Int) := of_decide_eq_true Q4; have q102 : a1 < (l0_0.length : Int) := of_decide_eq_true Q4; obtain ⟨ad102, e102, hx102_0⟩ := Kd.at_int HR0_0.out a1 p102 q102; cases e102; replace hx102_0 := (HB.out.cell (World.block_lt_of_cell? w _ hx102_0)).trans hx102_0; replace p102 := eq_true p102; replace q102 := eq_true q102)))
   go_ret
   exact ⟨by first | rfl | (simp [errW_none, errW_some] <;> rfl) | (simp only [← hji6]; first | rfl | (simp [errW_none, errW_some] <;> rfl)) | (simp [*, errW_none, errW_some] <;> rfl), Q0 HB⟩
  ·rw [if_neg c4] at H
   exact absurd H (by simp)
 ·rw [if_neg c3] at H
  exact absurd H (by simp)
/-! ### slices_Clone_int_int: function 178 -/
def slices_Clone_int_int.f (l0 : List Int) : Option (List Int) := if l0.length < 17592186044416 then some l0 else none
set_option maxHeartbeats 8000000 in
set_option maxRecDepth 100000 in
theorem slices_Clone_int_int.calls (A0 : Option Addr) (c0 : Nat) (l0 : List Int) (r : List Int) (w : World) (hr0 : Kd.C (Kd.int .i64) w A0 l0.length l0) (hc0 : l0.length ≤ c0) (h : slices_Clone_int_int.f l0 = some r) :
  Calls Try.prog 178 #[.slice A0 l0.length c0] w fun e w' => ∃ v0_ : Value, e = .returned v0_ ∧ Kd.R (Kd.int .i64) 3 w' w.heap.size (fun _ => True) v0_ r ∧ Below w.heap.size w w' := by
 have heq := fun (W : World) (a : Option Addr) (n c : Nat) => Lib.run_eql_slice_nil (P := Try.prog) W 25 3 a n c 0 0 Try.underlying25
 have HR0 := Aside0.mk hr0
 have HC0 := Aside0.mk hc0
 clear hr0 hc0
 have HB := am (Below.refl w.heap.size w)
 unfold slices_Clone_int_int.f at h
 by_cases hl : l0.length < 17592186044416
 ·rw [if_pos hl] at h
  obtain rfl := Option.some.inj h; clear h; have LM := Aside0.mk hl; clear hl
  rcases A0 with _ | ad
  ·obtain rfl : l0 = [] := by
    rcases l0 with _ | ⟨x, l⟩
    ·rfl
    ·obtain ⟨ad, hh, _⟩ := HR0.out.2.2 (by simp)
     cases hh
   go_enter Try.func178, Try.ntmps178
   go_wp2
   go_ret
   exact ⟨_, by first | rfl | (simp; done), Kd.R_nil _ _ _ _ _, by repeat (first | exact HB.out | apply below_alloc | apply pw_below_drewN | apply below_drew1)⟩
  ·go_enter Try.func178, Try.ntmps178
   go_wp2_with (first | ((with_reducible refine gate_dst (N := 5) rfl ?_); refine Kd.R_lit (Kd.int .i64) _ 3 ?hg (N := 5) ?hd (xs := ([] : List Int)) (inner := []) (ok := fun _ => True) (okp := fun _ => True) ?hr ?hp (fun _ hk => hk) trivial (Below.refl _ _) (Nat.le_refl _) (by simp) ?_; (case hd => rfl); (case hg => rfl); (case hr => first | (go_simp; done) | (go_simp; rfl)); (case hp => exact (Reps.none _ _)); intro v142 w3 ho4 hb hg_ hnew_; clear hg_ hnew_; have HO143 := am (Kd.R_lower ho4 (below_size HB.out)); replace HB := am (below_step HB.out hb); obtain ⟨Ao5, co5, eo5⟩ := Kd.R_slice HO143.out; subst eo5) | ((with_reducible refine gate_builtin (b := .append) (xs := #[.tmp 5, .tmp 6]) rfl ?_); at_builtin; refine Kd.R_append_rows (Kd.int .i64) (w0 := w) w.heap.size rfl (.tmp 5) (.tmp 6) 25 3 (.int .i64 0) 8 rfl Try.underlying25 info3 rfl (by decide) (by omega) (.slice Ao5 ([] : List Int).length co5) ([] : List Int) l0 _ _ _ (fun _ => True) (fun _ => False) rfl rfl ?aO ?aR (fun _ _ h => h) (fun _ h => h.elim) (fun _ _ => trivial) ?aB ?aS ?aL ?_; (case aO => exact HO143.out); (case aR => exact (Kd.C_below HR0.out HB.out)); (case aB => exact HB.out); (case aS => exact (below_size HB.out)); (case aL => have := LM.out; simp only [List.length_nil]; omega); intro v146 w14 ho hb hg hat; simp only [List.nil_append] at ho; have HO147 := Aside0.mk ho; clear HB HO143; have HB := Aside0.mk hb; clear ho hb hg hat))
   go_ret
   exact ⟨_, by first | rfl | (simp; done), Q2 HO147, by repeat (first | exact HB.out | apply below_alloc | apply pw_below_drewN | apply below_drew1)⟩
 ·rw [if_neg hl] at h
  cases h
/-! ### impl_net_copMoves: function 102 -/
mutual
def impl_net_copRaw.l0 : Nat → List (List Int) → List Int → Int → Int → List Int → Option ((List (List Int)))
 | 0, _, _, _, _, _ => none
 | k + 1, x5, x16, x17, x18, x102000 => if x18 < x17 then (if 0 ≤ x18 then (if x18 < (x16.length : Int) then (impl_net_copRaw.l1 k (rd x16 x18) ([] : List (List Int)) x16 x17 x18 x5 (x5.length : Int) 0 x102000) else (none)) else (none)) else (some x5)
def impl_net_copRaw.l1 : Nat → Int → List (List Int) → List Int → Int → Int → List (List Int) → Int → Int → List Int → Option ((List (List Int)))
 | 0, _, _, _, _, _, _, _, _, _ => none
 | k + 1, x7, x8, x16, x17, x18, x22, x23, x24, x102000 => if x24 < x23 then (if 0 ≤ x24 then (if x24 < (x22.length : Int) then ((impl_net_closed.f x102000 x7).bind fun t107 => ((impl_setOf.f k t107).bind fun t108 => (impl_net_copRaw.l2 k x7 x8 (rd_L2 x22 x24) x16 x17 x18 x22 x23 x24 t108 (t108.length : Int) 0 x102000))) else (none)) else (none)) else (impl_net_copRaw.l0 k x8 x16 x17 (wrap64 (x18 + 1)) x102000)
def impl_net_copRaw.l2 : Nat → Int → List (List Int) → List Int → List Int → Int → Int → List (List Int) → Int → Int → List Int → Int → Int → List Int → Option ((List (List Int)))
 | 0, _, _, _, _, _, _, _, _, _, _, _, _, _ => none
 | k + 1, x7, x8, x10, x16, x17, x18, x22, x23, x24, x31, x32, x33, x102000 => if x33 < x32 then (if 0 ≤ x33 then (if x33 < (x31.length : Int) then ((slices_Clone_int_int.f x10).bind fun t112 => (if t112.length < 17592186044416 then (if x8.length < 5864062014805 then (impl_net_copRaw.l2 k x7 (x8 ++ [(t112 ++ [rd x31 x33])]) x10 x16 x17 x18 x22 x23 x24 x31 x32 (wrap64 (x33 + 1)) x102000) else (none)) else (none))) else (none)) else (none)) else (impl_net_copRaw.l1 k x7 x8 x16 x17 x18 x22 x23 (wrap64 (x24 + 1)) x102000)
end
def impl_net_copRaw.f (k : Nat) (l0_0 : List Int) (l1 : List Int) : Option ((List (List Int))) := impl_net_copRaw.l0 k (([[]] : List (List Int))) l1 (l1.length : Int) 0 l0_0
theorem impl_net_copRaw.mono_l : ∀ k, (∀ y0 y1 y2 y3 y4, LeO (impl_net_copRaw.l0 k y0 y1 y2 y3 y4) (impl_net_copRaw.l0 (k + 1) y0 y1 y2 y3 y4)) ∧ (∀ y0 y1 y2 y3 y4 y5 y6 y7 y8, LeO (impl_net_copRaw.l1 k y0 y1 y2 y3 y4 y5 y6 y7 y8) (impl_net_copRaw.l1 (k + 1) y0 y1 y2 y3 y4 y5 y6 y7 y8)) ∧ (∀ y0 y1 y2 y3 y4 y5 y6 y7 y8 y9 y10 y11 y12, LeO (impl_net_copRaw.l2 k y0 y1 y2 y3 y4 y5 y6 y7 y8 y9 y10 y11 y12) (impl_net_copRaw.l2 (k + 1) y0 y1 y2 y3 y4 y5 y6 y7 y8 y9 y10 y11 y12))
 | 0 => ⟨fun _ _ _ _ _ r h => by simp [impl_net_copRaw.l0] at h, fun _ _ _ _ _ _ _ _ _ r h => by simp [impl_net_copRaw.l1] at h, fun _ _ _ _ _ _ _ _ _ _ _ _ _ r h => by simp [impl_net_copRaw.l2] at h⟩
 | k + 1 => by
  obtain ⟨ih0, ih1, ih2⟩ := impl_net_copRaw.mono_l k; refine ⟨?_, ?_, ?_⟩
  all_goals
   intros
   first | unfold impl_net_copRaw.l0 | unfold impl_net_copRaw.l1 | unfold impl_net_copRaw.l2
   repeat' first | (with_reducible first | exact ih0 _ _ _ _ _ | exact ih1 _ _ _ _ _ _ _ _ _ | exact ih2 _ _ _ _ _ _ _ _ _ _ _ _ _ | exact impl_setOf.mono _ _ | exact LeO.refl _ | exact LeO.none _ | refine LeO.ite ?_ ?_ | refine LeO.bind ?_ (fun _ => ?_))
theorem impl_net_copRaw.mono : ∀ a0 a1 k, LeO (impl_net_copRaw.f k a0 a1) (impl_net_copRaw.f (k + 1) a0 a1) := by
 intro a0 a1 k
 obtain ⟨ih0, ih1, ih2⟩ := impl_net_copRaw.mono_l k
 unfold impl_net_copRaw.f
 repeat' first | (with_reducible first | exact ih0 _ _ _ _ _ | exact ih1 _ _ _ _ _ _ _ _ _ | exact ih2 _ _ _ _ _ _ _ _ _ _ _ _ _ | exact impl_setOf.mono _ _ | exact LeO.refl _ | exact LeO.none _ | refine LeO.ite ?_ ?_ | refine LeO.bind ?_ (fun _ => ?_))
def impl_net_copMoves.f (k : Nat) (l0_0 : List Int) (l1 : List Int) : Option ((List (List Int))) := (impl_net_copRaw.f k l0_0 l1).bind tailF
theorem impl_net_copMoves.mono : ∀ a0 a1 k, LeO (impl_net_copMoves.f k a0 a1) (impl_net_copMoves.f (k + 1) a0 a1) := fun _ _ _ => LeO.bind (impl_net_copRaw.mono _ _ _) (fun _ => LeO.refl _)
set_option maxHeartbeats 8000000 in
set_option maxRecDepth 100000 in
theorem impl_net_copMoves.calls (k : Nat) (A0_0 : Option Addr) (c0_0 : Nat) (l0_0 : List Int) (A1 : Option Addr) (c1 : Nat) (l1 : List Int) (r : List (List Int)) (w : World) (hr0_0 : Kd.C (Kd.int .i64) w A0_0 l0_0.length l0_0) (hc0_0 : l0_0.length ≤ c0_0) (hr1 : Kd.C (Kd.int .i64) w A1 l1.length l1) (hc1 : l1.length ≤ c1) (h : impl_net_copMoves.f k l0_0 l1 = some r) :
  Calls Try.prog 102 #[.agg #[.slice A0_0 l0_0.length c0_0], .slice A1 l1.length c1] w fun e w' => ∃ v0_ : Value, e = .returned (v0_) ∧ Kd.S (Kd.slice 3 (Kd.int .i64)) 25 w' w.heap.size (fun _ => True) v0_ r ∧ Below w.heap.size w w' := by
 obtain ⟨r0, h, htl⟩ := Option.bind_eq_some_iff.mp h
 have HTL := Aside0.mk htl
 clear htl
 have hu90 := Try.underlying90
 have HR0_0 := Aside0.mk hr0_0
 have HC0_0 := Aside0.mk hc0_0
 clear hr0_0 hc0_0
 have HR1 := Aside0.mk hr1
 have HC1 := Aside0.mk hc1
 clear hr1 hc1
 have HB := am (Below.refl w.heap.size w)
 have H : (impl_net_copRaw.l0 k (([[]] : List (List Int))) l1 (l1.length : Int) 0 l0_0) = some r0 := h
 clear h
 obtain ⟨y102, hy102⟩ : ∃ y_ : List (List Int), y_ = (([[]] : List (List Int))) := ⟨_, rfl⟩
 replace H : (impl_net_copRaw.l0 k y102 l1 (l1.length : Int) 0 l0_0) = some r0 := RH hy102 H
 have Ny102 := Aside0.mk hy102
 clear hy102
 have H' := Aside0.mk H
 clear H
 go_enter Try.func102, Try.ntmps102
 go_wp2_with (first | ((with_reducible refine gate_dst (N := 2) rfl ?_); refine box_event ?hg (N := 2) ?hd (cs := #[.slice A0_0 l0_0.length c0_0]) (t := 90) ?hr ?_; (case hd => rfl); (case hg => rfl); (case hr => first | (go_simp; done) | (go_simp; rfl)); intro gb101 hg w3 hbox hb; have BK101 := am (hbox); have GW101 := am ((Q26 : w.heap.size ≤ gb101)); have GE101 := am ((Q26 : w.heap.size ≤ gb101)); replace HB := am (below_step (Q0 HB) hb); clear hb hbox hg) | ((with_reducible refine gate_dst (N := 15) rfl ?_); refine Kd.S_lit (Kd.slice 3 (Kd.int .i64)) _ 25 ?hg (N := 15) ?hd (xs := ([[]] : List (List Int))) (inner := [.slice none 0 0]) (ok := fun _ => True) (okp := fun _ => True) ?hr ?hp (fun _ hk => hk) trivial (Below.refl _ _) (Nat.le_refl _) (by simp) ?_; (case hd => rfl); (case hg => rfl); (case hr => first | (go_simp; done) | (go_simp; rfl)); (case hp => exact (Reps.one (show Kd.M (Kd.slice 3 (Kd.int .i64)) _ _ _ [] [.slice none 0 0] from ⟨_, rfl, Kd.R_nil _ _ _ _ _⟩) (Reps.none _ _))); intro v103 w4 ho5 hb hg_ hnew_; clear hg_ hnew_; (first | rw [← Ny102.out] at ho5 | (simp only [Int.reduceToNat] at ho5; rw [← Ny102.out] at ho5)); have HO104 := am (Kd.S_lower ho5 (below_size (Q0 HB))); replace BK101 := am (blk_below (g := gb101) (o := .cells #[.slice A0_0 l0_0.length c0_0] 90 (0, 0)) (Q1 BK101) hb); replace HB := am (below_step (Q0 HB) hb); clear hb ho5))
 go_loopg [5, 18] k (fun kq v5 v18 w' => ∃ (x5_1 : List (List Int)) (x18_1 : Int), v18 = .int .i64 x18_1 ∧ Aside0 (impl_net_copRaw.l0 kq x5_1 l1 (l1.length : Int) x18_1 l0_0 = some r0) ∧ Aside0 (kq ≤ k) ∧ Aside0 (Kd.S (Kd.slice 3 (Kd.int .i64)) 25 w' w.heap.size (fun _ => True) v5 x5_1) ∧ Aside0 (w'.heap[gb101]? = some (.cells #[(.slice A0_0 l0_0.length c0_0)] 90 (0, 0))) ∧ Aside0 (Below w.heap.size w w'))
 case atStart => exact ⟨(y102), (0), Q8, H', ⟨Nat.le_refl _⟩, ⟨Q38 HO104⟩, ⟨Q1 BK101⟩, ⟨Q0 HB⟩⟩
 case round =>
  clear H'
  try clear c1
  try clear p2
  obtain ⟨x5_1, x18_1, rfl, HA, HK1, HO_5, BK101, HB⟩ := hrel
  cases gk with
  | zero => exact absurd HA.out (by simp [impl_net_copRaw.l0])
  | succ k1 =>
   have H := HA.out; clear HA
   simp only [impl_net_copRaw.l0] at H
   by_cases c6 : x18_1 < (l1.length : Int)
   ·rw [if_pos c6] at H
    have c6b0 := decide_eq_true c6; clear c6
    by_cases c7 : 0 ≤ x18_1
    ·rw [if_pos c7] at H
     have c7b0 := decide_eq_true c7; clear c7
     by_cases c8 : x18_1 < (l1.length : Int)
     ·rw [if_pos c8] at H
      have c8b0 := decide_eq_true c8; clear c8; have H' := Aside0.mk H; clear H; have p105 : 0 ≤ (x18_1 : Int) := of_decide_eq_true Q4; have q105 : x18_1 < (l1.length : Int) := of_decide_eq_true Q4; obtain ⟨ad105, e105, hx105_0⟩ := Kd.at_int HR1.out x18_1 p105 q105
      cases e105
      replace hx105_0 := (HB.out.cell (World.block_lt_of_cell? w _ hx105_0)).trans hx105_0; replace p105 := eq_true p105; replace q105 := eq_true q105; obtain ⟨Ao9, co9, eo9⟩ := Kd.S_slice HO_5.out; subst eo9
      go_wp2
      go_loopg [8, 24] k1 (fun kq v8 v24 w' => ∃ (x8_2 : List (List Int)) (x24_2 : Int), v24 = .int .i64 x24_2 ∧ Aside0 (impl_net_copRaw.l1 kq (rd l1 x18_1) x8_2 l1 (l1.length : Int) x18_1 x5_1 (x5_1.length : Int) x24_2 l0_0 = some r0) ∧ Aside0 (kq ≤ k1) ∧ Aside0 (Kd.S (Kd.slice 3 (Kd.int .i64)) 25 w' w.heap.size (fun k_ => some k_ ≠ ((.slice Ao9 x5_1.length co9) : Value).ownBlock) v8 x8_2) ∧ Aside0 (Kd.S (Kd.slice 3 (Kd.int .i64)) 25 w' w.heap.size (fun k_ => some k_ ≠ (v8 : Value).ownBlock) (.slice Ao9 x5_1.length co9) x5_1) ∧ Aside0 (w'.heap[gb101]? = some (.cells #[(.slice A0_0 l0_0.length c0_0)] 90 (0, 0))) ∧ Aside0 (Below w.heap.size w w'))
      case atStart => exact ⟨(([] : List (List Int))), (0), Q8, H', ⟨Nat.le_refl _⟩, ⟨by first | exact Kd.S_nil _ _ _ _ _ | exact Kd.N_nil _ _ _ _ _ | exact Kd.V_nil _ _ _ _ _ | exact Kd.Q_nil _ _ _ _ _ | exact Kd.R_nil _ _ _ _ _⟩, ⟨by (with_reducible repeat (first | apply Kd.S_alloc | apply Kd.S_drewN | apply Kd.S_drew)); exact Kd.S_mono HO_5.out (fun _ hk => (by simp [Value.ownBlock]))⟩, ⟨Q1 BK101⟩, ⟨Q0 HB⟩⟩
      case round =>
       clear H'
       try clear c1
       try clear p1
       try clear q1
       try clear hx1
       try clear p2
       try clear c6
       try clear c6b0
       try clear c7
       try clear c7b0
       try clear c8
       try clear c8b0
       try clear hx105_0
       try clear p105
       try clear p2
       try clear q105
       obtain ⟨x8_2, x24_2, rfl, HA, HK2, HO_8, HO_22, BK101, HB⟩ := hrel
       cases gk with
       | zero => exact absurd HA.out (by simp [impl_net_copRaw.l1])
       | succ k2 =>
        have H := HA.out; clear HA
        simp only [impl_net_copRaw.l1] at H
        by_cases c10 : x24_2 < (x5_1.length : Int)
        ·rw [if_pos c10] at H
         have c10b0 := decide_eq_true c10; clear c10
         by_cases c11 : 0 ≤ x24_2
         ·rw [if_pos c11] at H
          have c11b0 := decide_eq_true c11; clear c11
          by_cases c12 : x24_2 < (x5_1.length : Int)
          ·rw [if_pos c12] at H
           have c12b0 := decide_eq_true c12; clear c12; replace H := (ob H); obtain ⟨t107, A130, H⟩ := H; (try dsimp only at H); have A13 := Aside0.mk A130; clear A130; replace H := (ob H); obtain ⟨t108, A140, H⟩ := H; (try dsimp only at H); have A14 := Aside0.mk A140; clear A140; have H' := Aside0.mk H; clear H; have p106 : 0 ≤ (x24_2 : Int) := of_decide_eq_true Q4; have q106 : x24_2 < (x5_1.length : Int) := of_decide_eq_true Q4; obtain ⟨ad106, A106_0, c106_0, e106, hx106_0, hl106_0, hi106_0⟩ := at_L2 (Kd.S_reads' HO_22.out).2.2 x24_2 p106 q106
           cases e106
           obtain ⟨ce106, hce106, hMe106, hcc106⟩ := Kd.S_get HO_22.out [] x24_2 p106 (by first | exact q106 | exact of_decide_eq_true Q4 | (have e_ := (Kd.S_reads' HO_22.out).1; omega)); obtain ⟨ve106_0, rfl, ge106_0⟩ := hMe106; have hv106_0 := hcc106 0 _ rfl; rw [Nat.add_zero, show ((Kd.slice 3 (Kd.int .i64))).sz = 1 from rfl, Nat.mul_one] at hv106_0; replace hv106_0 := Option.some.inj (hv106_0.symm.trans hx106_0); rw [hv106_0] at ge106_0; have HL106_0 := am (show Kd.R (Kd.int .i64) 3 _ _ _ _ (rd_L2 x5_1 x24_2) from ge106_0); clear hv106_0 ge106_0; clear hcc106 hce106; have HR106_0 := Aside0.mk hi106_0; have HC106_0 := Aside0.mk hl106_0; clear hi106_0 hl106_0; replace p106 := eq_true p106; replace q106 := eq_true q106; have hcz15_0 : wr.cell? ⟨gb101, 0, none⟩ = some (.slice A0_0 l0_0.length c0_0) := (blk_cell BK101.out 0).trans rfl; have hfz15_0 := blk_frozen BK101.out 0
           go_wp2_with (first | ((with_reducible refine gate_callee (f := 177) rfl ?_); refine goesL_ (some 30) rfl rfl Try.func177 (by kernel_rfl) rfl #[.agg #[.slice A0_0 l0_0.length c0_0], .int .i64 (rd l1 x18_1)] rfl Q3 ?_; (with_reducible refine (impl_net_closed.calls _ _ l0_0 (rd l1 x18_1) t107 _ ?side1 ?side2 A13.out).mono ?_); (case side1 => exact (Q6 HR0_0 HB)); (case side2 => exact HC0_0.out); rintro e w16 ⟨rfl, hb⟩; refine ⟨_, rfl, ?_⟩; replace HO_8 := am (Kd.S_below Q50 hb); replace HO_22 := am (Kd.S_below Q48 hb); replace HL106_0 := am (Kd.R_below Q70 hb); replace BK101 := am (blk_below (g := gb101) (o := .cells #[.slice A0_0 l0_0.length c0_0] 90 (0, 0)) (Q1 BK101) hb); replace HR106_0 := am (Kd.C_below (Q5 HR106_0) hb); replace HB := am (below_step (Q0 HB) hb); (try clear hb); (try clear hb2); (try clear hk); (try clear hi)) | ((with_reducible refine gate_callee (f := 122) rfl ?_); refine goesL_ (some 31) rfl rfl Try.func122 (by kernel_rfl) rfl #[.int .i64 t107] rfl Q3 ?_; (with_reducible refine (impl_setOf.calls k2 t107 t108 _ A14.out).mono ?_); rintro e w17 ⟨v109, rfl, ho0, hb⟩; refine ⟨_, rfl, ?_⟩; replace HO_8 := am (Kd.S_elder' Q50 (Kd.R_base ho0) hb); replace HO_22 := am (Kd.S_elder' Q48 (Kd.R_base ho0) hb); have HO110 := am (Kd.R_lower (Kd.R_new' ho0 (Kd.R_lt Q70)) (below_size (Q0 HB))); replace HL106_0 := am (Kd.R_elder' Q70 (Kd.R_base ho0) hb); replace BK101 := am (blk_below (g := gb101) (o := .cells #[.slice A0_0 l0_0.length c0_0] 90 (0, 0)) (Q1 BK101) hb); replace HR106_0 := am (Kd.C_below (Q5 HR106_0) hb); replace HB := am (below_step (Q0 HB) hb); (try clear hb); (try clear hb2); (try clear hk); (try clear hi); (try clear ho0); obtain ⟨Ao18, co18, eo18⟩ := Kd.R_slice HO110.out; subst eo18))
           go_loopg [8, 33] k2 (fun kq v8 v33 w' => ∃ (x8_3 : List (List Int)) (x33_3 : Int), v33 = .int .i64 x33_3 ∧ Aside0 (impl_net_copRaw.l2 kq (rd l1 x18_1) x8_3 (rd_L2 x5_1 x24_2) l1 (l1.length : Int) x18_1 x5_1 (x5_1.length : Int) x24_2 t108 (t108.length : Int) x33_3 l0_0 = some r0) ∧ Aside0 (kq ≤ k2) ∧ Aside0 (Kd.S (Kd.slice 3 (Kd.int .i64)) 25 w' w.heap.size (fun k_ => some k_ ≠ ((.slice (some ad106) x5_1.length co9) : Value).ownBlock ∧ some k_ ≠ ((.slice Ao18 t108.length co18) : Value).ownBlock) v8 x8_3) ∧ Aside0 (Kd.S (Kd.slice 3 (Kd.int .i64)) 25 w' w.heap.size (fun k_ => some k_ ≠ (v8 : Value).ownBlock ∧ some k_ ≠ ((.slice Ao18 t108.length co18) : Value).ownBlock) (.slice (some ad106) x5_1.length co9) x5_1) ∧ Aside0 (Kd.R (Kd.int .i64) 3 w' w.heap.size (fun _ => True) (.slice Ao18 t108.length co18) t108) ∧ Aside0 (w'.heap[gb101]? = some (.cells #[(.slice A0_0 l0_0.length c0_0)] 90 (0, 0))) ∧ Aside0 (Below w.heap.size w w') ∧ Aside0 (Kd.R (Kd.int .i64) 3 w' w.heap.size (fun k_ => some k_ ≠ (v8 : Value).ownBlock ∧ some k_ ≠ ((.slice Ao18 t108.length co18) : Value).ownBlock) (.slice A106_0 (rd_L2 x5_1 x24_2).length c106_0) (rd_L2 x5_1 x24_2)))
           case atStart => exact ⟨(x8_2), (0), Q8, H', ⟨Nat.le_refl _⟩, ⟨Q50⟩, ⟨Q48⟩, ⟨Q42 HO110⟩, ⟨Q1 BK101⟩, ⟨Q0 HB⟩, ⟨Kd.R_mono HL106_0.out (fun _ hk => ⟨hk.1.1, hk.2⟩)⟩⟩
           case round =>
            clear H'
            try clear c1
            try clear p1
            try clear q1
            try clear hx1
            try clear p2
            try clear c6
            try clear c6b0
            try clear c7
            try clear c7b0
            try clear c8
            try clear c8b0
            try clear c10
            try clear c10b0
            try clear p10
            try clear q10
            try clear hx10
            try clear c11
            try clear c11b0
            try clear c12
            try clear c12b0
            try clear c17
            try clear hcz15_0
            try clear hfz15_0
            try clear hx105_0
            try clear hx106_0
            try clear p1
            try clear p105
            try clear p106
            try clear p2
            try clear q1
            try clear q105
            try clear q106
            obtain ⟨x8_3, x33_3, rfl, HA, HK3, HO_8, HO_22, HO_31, BK101, HB, HRW⟩ := hrel
            cases gk with
            | zero => exact absurd HA.out (by simp [impl_net_copRaw.l2])
            | succ k3 =>
             have H := HA.out; clear HA
             simp only [impl_net_copRaw.l2] at H
             by_cases c19 : x33_3 < (t108.length : Int)
             ·rw [if_pos c19] at H
              have c19b0 := decide_eq_true c19; clear c19
              by_cases c20 : 0 ≤ x33_3
              ·rw [if_pos c20] at H
               have c20b0 := decide_eq_true c20; clear c20
               by_cases c21 : x33_3 < (t108.length : Int)
               ·rw [if_pos c21] at H
                have c21b0 := decide_eq_true c21; clear c21; replace H := (ob H); obtain ⟨t112, A220, H⟩ := H; (try dsimp only at H); have A22 := Aside0.mk A220; clear A220
                by_cases c23 : t112.length < 17592186044416
                ·rw [if_pos c23] at H
                 have LMc23 := Aside0.mk c23; clear c23; obtain ⟨y115, hy115⟩ : ∃ y_ : List Int, y_ = (t112 ++ [rd t108 x33_3]) := ⟨_, rfl⟩; replace H : (if x8_3.length < 5864062014805 then (impl_net_copRaw.l2 k3 (rd l1 x18_1) (x8_3 ++ [y115]) (rd_L2 x5_1 x24_2) l1 (l1.length : Int) x18_1 x5_1 (x5_1.length : Int) x24_2 t108 (t108.length : Int) (wrap64 (x33_3 + 1)) l0_0) else (none)) = some r0 := RH hy115 H; have Ny115 := Aside0.mk hy115; clear hy115
                 by_cases c24 : x8_3.length < 5864062014805
                 ·rw [if_pos c24] at H
                  have LMc24 := Aside0.mk c24; clear c24; obtain ⟨y118, hy118⟩ : ∃ y_ : List (List Int), y_ = (x8_3 ++ [y115]) := ⟨_, rfl⟩; replace H : (impl_net_copRaw.l2 k3 (rd l1 x18_1) y118 (rd_L2 x5_1 x24_2) l1 (l1.length : Int) x18_1 x5_1 (x5_1.length : Int) x24_2 t108 (t108.length : Int) (wrap64 (x33_3 + 1)) l0_0) = some r0 := RH hy118 H; have Ny118 := Aside0.mk hy118; clear hy118; have H' := Aside0.mk H; clear H; have p111 : 0 ≤ (x33_3 : Int) := of_decide_eq_true Q4; have q111 : x33_3 < (t108.length : Int) := of_decide_eq_true Q4; obtain ⟨ad111, e111, hx111_0⟩ := Kd.at_int (Kd.R_reads' HO_31.out).2.2 x33_3 p111 q111
                  cases e111
                  replace p111 := eq_true p111; replace q111 := eq_true q111
                  go_wp2_with (first | ((with_reducible refine gate_callee (f := 178) rfl ?_); refine goesL_ (some 39) rfl rfl Try.func178 (by kernel_rfl) rfl #[.slice A106_0 (rd_L2 x5_1 x24_2).length c106_0] rfl Q3 ?_; (with_reducible refine (slices_Clone_int_int.calls _ _ (rd_L2 x5_1 x24_2) t112 _ ?side1 ?side2 A22.out).mono ?_); (case side1 => exact (by repeat (first | exact (Kd.R_reads' HRW.out).2.2 | (with_reducible refine Kd.C_alloc ?_ _) | (with_reducible refine Kd.C_drewN ?_ _) | (with_reducible refine Kd.C_drew ?_)))); (case side2 => exact HC106_0.out); rintro e w25 ⟨v113, rfl, ho0, hb⟩; refine ⟨_, rfl, ?_⟩; have n0_ := am (Kd.S_elder' Q50 (Kd.R_base ho0) hb); have n1_ := am (Kd.S_elder' Q48 (Kd.R_base ho0) hb); have n99_ := am (Kd.R_elder' (by (with_reducible repeat (first | apply Kd.R_alloc | apply Kd.R_drewN | apply Kd.R_drew)); exact HRW.out) (Kd.R_base ho0) hb); have n2_ := am (Kd.R_elder' Q49 (Kd.R_base ho0) hb); have n3_ := am (Kd.R_lower (Kd.R_new' ho0 (Kd.R_lt Q49)) (below_size (Q0 HB))); have n4_ := am (blk_below (g := gb101) (o := .cells #[.slice A0_0 l0_0.length c0_0] 90 (0, 0)) (Q1 BK101) hb); have n5_ := am (below_step (Q0 HB) hb); clear HO_31; clear BK101; clear HB; replace HO_8 := n0_; replace HO_22 := n1_; replace HRW := n99_; clear n99_; have HO_31 := n2_; have HO114 := n3_; have BK101 := n4_; have HB := n5_; clear n0_ n1_ n2_ n3_ n4_ n5_; (try clear hb); (try clear hb2); (try clear hk); (try clear hi); (try clear ho0)) | ((with_reducible refine gate_builtin (b := .append) (xs := #[.tmp 39, .tmp 41]) rfl ?_); at_builtin; refine Kd.R_append (Kd.int .i64) (w0 := w) w.heap.size rfl (.tmp 39) (.tmp 41) 25 3 (.int .i64 0) 8 rfl Try.underlying25 info3 rfl (by decide) (by omega) v113 t112 (rd t108 x33_3) [.int .i64 (rd t108 x33_3)] (fun k_ => some k_ ≠ (.slice (some ad111) t108.length co18 : Value).ownBlock) (fun _ => False) rfl rfl ?aP (fun _ hk => hk.elim) ?aF ?aO ?aB ?aS ?aL ?_; (case aP => exact rfl); (case aB => exact (Q0 HB)); (case aF => exact (fun k_ hk => Kd.fresh' (Kd.R_lt Q49) k_ hk)); (case aO => exact (Q21 HO114)); (case aS => exact (below_size (Q0 HB))); (case aL => have := LMc23.out; omega); intro v116 w26 ho hb hg hat; rw [← Ny115.out] at ho; have n0_ := am (Kd.S_after (ok := (fun k_ => some k_ ≠ (.slice (some ad106) x5_1.length co9 : Value).ownBlock ∧ some k_ ≠ (.slice (some ad111) t108.length co18 : Value).ownBlock)) Q50 hg hat); have n1_ := am (Kd.S_after (ok := (fun k_ => some k_ ≠ (u8 : Value).ownBlock ∧ some k_ ≠ (.slice (some ad111) t108.length co18 : Value).ownBlock)) Q48 hg hat); have n99_ := am (Kd.R_after (ok := (fun k_ => some k_ ≠ (u8 : Value).ownBlock ∧ some k_ ≠ (.slice (some ad111) t108.length co18 : Value).ownBlock)) (by (with_reducible repeat (first | apply Kd.R_alloc | apply Kd.R_drewN | apply Kd.R_drew)); exact HRW.out) hg hat); have n2_ := am (Kd.R_after (ok := (fun _ => True)) Q49 hg hat); have n3_ := am (blk_grown (g := gb101) (o := .cells #[.slice A0_0 l0_0.length c0_0] 90 (0, 0)) (Q1 BK101) hg (Kd.R_ne HO114.out BK101.out (by decide))); have n4_ := am (hb); have n5_ := am (ho); clear HO_31; clear BK101; clear HB; clear HO114; replace HO_8 := n0_; replace HO_22 := n1_; replace HRW := n99_; clear n99_; have HO_31 := n2_; have BK101 := n3_; have HB := n4_; have HO117 := n5_; clear n0_ n1_ n2_ n3_ n4_ n5_; clear ho hb hg hat; obtain ⟨Ao28, co28, eo28⟩ := Kd.R_slice HO117.out; subst eo28) | ((with_reducible refine gate_builtin (b := .append) (xs := #[.tmp 37, .tmp 43]) rfl ?_); at_builtin; refine Kd.S_append (Kd.slice 3 (Kd.int .i64)) (w0 := w) w.heap.size rfl (.tmp 37) (.tmp 43) 27 25 (.slice none 0 0) 24 rfl Try.underlying27 info25 rfl (by decide) (by omega) u8 x8_3 y115 [.slice Ao28 y115.length co28] (fun k_ => some k_ ≠ (.slice (some ad106) x5_1.length co9 : Value).ownBlock ∧ some k_ ≠ (.slice (some ad111) t108.length co18 : Value).ownBlock) (fun k_ => some k_ = (.slice Ao28 y115.length co28 : Value).ownBlock) rfl rfl ?aP (fun k_ hk_ => ((Kd.R_mono (ok' := fun k_ => ((fun k_ => some k_ ≠ (.slice (some ad106) x5_1.length co9 : Value).ownBlock ∧ some k_ ≠ (.slice (some ad111) t108.length co18 : Value).ownBlock)) k_ ∧ some k_ ≠ (u8 : Value).ownBlock) (Kd.R_apart' (Kd.R_apart' (HO117.out) (Kd.S_typed HO_22.out) (by decide)) (Kd.S_typed HO_8.out) (by decide)) (fun k_ hk => ⟨⟨hk.1.2, hk.1.1⟩, hk.2⟩))).1 k_ hk_.symm) ?aF ?aO ?aB ?aS ?aL ?_; (case aP => exact Kd.M_row (Kd.R_mono (Kd.R_tight rfl (Kd.R_mono (ok' := fun k_ => ((fun k_ => some k_ ≠ (.slice (some ad106) x5_1.length co9 : Value).ownBlock ∧ some k_ ≠ (.slice (some ad111) t108.length co18 : Value).ownBlock)) k_ ∧ some k_ ≠ (u8 : Value).ownBlock) (Kd.R_apart' (Kd.R_apart' (HO117.out) (Kd.S_typed HO_22.out) (by decide)) (Kd.S_typed HO_8.out) (by decide)) (fun k_ hk => ⟨⟨hk.1.2, hk.1.1⟩, hk.2⟩))) (fun _ h_ => h_))); (case aB => exact (Q0 HB)); (case aF => exact (fun k_ hk => ⟨Kd.fresh' (Kd.S_lt Q48) k_ hk, Kd.fresh' (Kd.R_lt Q49) k_ hk⟩)); (case aO => exact (by (with_reducible repeat (first | apply Kd.S_alloc | apply Kd.S_drewN | apply Kd.S_drew)); exact Kd.S_mono HO_8.out (fun k_ hk => ⟨⟨hk.1.1, hk.1.2⟩, fun e_ => hk.2 e_⟩))); (case aS => exact (below_size (Q0 HB))); (case aL => have := LMc24.out; omega); intro v119 w27 ho hb hg hat; rw [← Ny118.out] at ho; have n0_ := am (Kd.S_after (ok := (fun k_ => some k_ ≠ (.slice (some ad111) t108.length co18 : Value).ownBlock ∧ some k_ ≠ (.slice Ao28 y115.length co28 : Value).ownBlock)) (by (with_reducible repeat (first | apply Kd.S_alloc | apply Kd.S_drewN | apply Kd.S_drew)); exact Kd.S_mono HO_22.out (fun _ hk => ⟨⟨hk.1.2, hk.2⟩, hk.1.1⟩)) hg hat); have n99_ := am (Kd.R_after (ok := (fun k_ => some k_ ≠ (.slice (some ad111) t108.length co18 : Value).ownBlock ∧ some k_ ≠ (.slice Ao28 y115.length co28 : Value).ownBlock)) (by (with_reducible repeat (first | apply Kd.R_alloc | apply Kd.R_drewN | apply Kd.R_drew)); exact Kd.R_mono HRW.out (fun _ hk => ⟨⟨hk.1.2, hk.2⟩, hk.1.1⟩)) hg hat); have n1_ := am (Kd.R_over' Q49 (Kd.S_typed Q50) (by decide) hg); have n2_ := am (blk_grown (g := gb101) (o := .cells #[.slice A0_0 l0_0.length c0_0] 90 (0, 0)) (Q1 BK101) hg (Kd.S_ne HO_8.out BK101.out (by decide))); have n3_ := am (hb); have n4_ := am (ho); clear HO_31; clear BK101; clear HB; clear HO_8; clear HO117; replace HO_22 := n0_; replace HRW := n99_; clear n99_; have HO_31 := n1_; have BK101 := n2_; have HB := n3_; have HO120 := n4_; clear n0_ n1_ n2_ n3_ n4_; clear ho hb hg hat))
                  go_roundg k3
                  case measure => have := HK1.out; have := HK2.out; have := HK3.out; omega
                  case rel => exact ⟨(y118), (wrap64 (x33_3 + 1)), Q8, H', ⟨Q75⟩, ⟨Q38 HO120⟩, ⟨by (with_reducible repeat (first | apply Kd.S_alloc | apply Kd.S_drewN | apply Kd.S_drew)); exact Kd.S_mono HO_22.out (fun _ hk => ⟨hk.2, hk.1.1⟩)⟩, ⟨by (with_reducible repeat (first | apply Kd.R_alloc | apply Kd.R_drewN | apply Kd.R_drew)); exact Kd.R_mono HO_31.out (fun _ hk => trivial)⟩, ⟨Q1 BK101⟩, ⟨Q0 HB⟩, ⟨Kd.R_mono HRW.out (fun _ hk => ⟨hk.2, hk.1.1⟩)⟩⟩
                 ·rw [if_neg c24] at H
                  exact absurd H (by simp)
                ·rw [if_neg c23] at H
                 exact absurd H (by simp)
               ·rw [if_neg c21] at H
                exact absurd H (by simp)
              ·rw [if_neg c20] at H
               exact absurd H (by simp)
             ·rw [if_neg c19] at H
              have c19b0 := decide_eq_false c19; clear c19; have H' := Aside0.mk H; clear H
              go_wp2
              go_roundg k3
              case measure => have := HK1.out; have := HK2.out; have := HK3.out; omega
              case rel => exact ⟨(x8_3), (wrap64 (x24_2 + 1)), Q8, H', ⟨Q75⟩, ⟨by (with_reducible repeat (first | apply Kd.S_alloc | apply Kd.S_drewN | apply Kd.S_drew)); exact Kd.S_mono HO_8.out (fun _ hk => hk.1)⟩, ⟨by (with_reducible repeat (first | apply Kd.S_alloc | apply Kd.S_drewN | apply Kd.S_drew)); exact Kd.S_mono HO_22.out (fun _ hk => hk.1)⟩, ⟨Q1 BK101⟩, ⟨Q0 HB⟩⟩
          ·rw [if_neg c12] at H
           exact absurd H (by simp)
         ·rw [if_neg c11] at H
          exact absurd H (by simp)
        ·rw [if_neg c10] at H
         have c10b0 := decide_eq_false c10; clear c10; have H' := Aside0.mk H; clear H
         go_wp2
         go_roundg k2
         case measure => have := HK1.out; have := HK2.out; omega
         case rel => exact ⟨(x8_2), (wrap64 (x18_1 + 1)), Q8, H', ⟨Q71⟩, ⟨by (with_reducible repeat (first | apply Kd.S_alloc | apply Kd.S_drewN | apply Kd.S_drew)); exact Kd.S_mono HO_8.out (fun _ hk => trivial)⟩, ⟨Q1 BK101⟩, ⟨Q0 HB⟩⟩
     ·rw [if_neg c8] at H
      exact absurd H (by simp)
    ·rw [if_neg c7] at H
     exact absurd H (by simp)
   ·rw [if_neg c6] at H
    have c6b0 := decide_eq_false c6; clear c6; obtain rfl := Option.some.inj H; obtain ⟨hn_, hp_, hx_, hr_⟩ := tail_some HTL.out; subst hr_; clear HTL; obtain ⟨g, cap, hv_, hgb_, hgl_, -⟩ := Kd.S_form HO_5.out hp_; subst hv_; obtain ⟨n, hn0⟩ : ∃ n, n = x5_1.length := ⟨_, rfl⟩; have HO_5a := am (show Kd.S (Kd.slice 3 (Kd.int .i64)) 25 wr w.heap.size (fun _ => True) (.slice (some ⟨g, 0, none⟩) n cap) x5_1 from by rw [hn0]; exact HO_5.out); clear HO_5; rw [← hn0] at hn_ hp_ ⊢; have HN := Aside0.mk hn0; have HXX := Aside0.mk hx_; clear hn0 hx_ hgl_ hgb_
    go_wp2
    go_loopg [51] n (fun kq v51 wr => ∃ (i : Nat) (xs : List (List Int)), v51 = .int .i64 i ∧ i ≤ n ∧ n - i ≤ kq ∧ Aside0 (xs = (x5_1.take i).map sortL ++ x5_1.drop i) ∧ Aside0 (Kd.S (Kd.slice 3 (Kd.int .i64)) 25 wr w.heap.size (fun _ => True) (.slice (some ⟨g, 0, none⟩) n cap) xs) ∧ Aside0 (Below w.heap.size w wr))
    case atStart => exact ⟨0, x5_1, Q73, by omega, by omega, ⟨by simp⟩, HO_5a, HB⟩
    case round =>
      clear HO_5a HB; obtain ⟨i, xs, rfl, hin, hq, HXS, HO_5, HB⟩ := hrel; have HL := am (Kd.S_reads' HO_5.out).1
      by_cases hlt : i < n
      · have hltz : (i : Int) < (n : Int) := by omega
        obtain ⟨oki, ce, hcl, hM, hcc, hok, hH⟩ := Kd.S_lend HO_5.out [] (i : Int) (by omega) hltz; obtain ⟨u, rfl, hR⟩ := hM; have hcell := hcc 0 _ rfl; rw [Nat.add_zero, show ((Kd.slice 3 (Kd.int .i64))).sz = 1 from rfl, Nat.mul_one, Int.toNat_natCast] at hcell; rw [Int.toNat_natCast] at hR; have HR := am (show Kd.R (Kd.int .i64) 3 wr w.heap.size oki u (xs.getD i []) from hR); have HH := Aside0.mk hH; have HST := am (set_step x5_1 sortL i (by rw [← HN.out]; exact hlt) HXS.out); have HL0 := am (show 0 < (xs.getD i []).length ∧ (xs.getD i []).length < 4611686018427387904 by rw [HST.out.1]; exact HXX.out _ (List.getElem_mem _)); clear hR hH hok hcc hcl
        go_wp2_with (first | ((with_reducible refine gate_callee (f := 179) rfl ?_); refine goesL_ (some 56) rfl rfl Try.func179 (by kernel_rfl) rfl #[u] rfl Q59 ?_; (refine (sort_row u (xs.getD i []) oki w wr Try.slices_Sort_int HB.out HR.out HL0.out.1 HL0.out.2).mono ?_); rintro e w5 ⟨rfl, ho1, hb1, hk1⟩; refine ⟨_, rfl, ?_⟩; replace HO_5 := am (Kd.H_back (Kd.H_step HH.out (fun k_ _ hn_ hl_ => hk1.2 k_ hl_ hn_)) (okp := oki) (x' := sortL (xs.getD i [])) (show Kd.M (Kd.slice 3 (Kd.int .i64)) w5 w.heap.size oki (sortL (xs.getD i [])) [u] from Kd.M_row ho1) (fun _ h_ => h_)); replace HB := Aside0.mk hb1; clear HR HH))
        go_roundg (n - (i + 1))
        case measure => omega
        case rel => exact ⟨i + 1, _, Q73, by omega, Nat.le_refl _, ⟨by rw [Int.toNat_natCast]; exact HST.out.2⟩, HO_5, HB⟩
      · have hltz : ¬ (i : Int) < (n : Int) := by omega
        obtain rfl : i = n := by omega
        have HXN := am (show xs = x5_1.map sortL by rw [HXS.out, HN.out, List.take_length, List.drop_length, List.append_nil])
        go_wp2_with (first | ((with_reducible refine gate_callee (f := 180) rfl ?_); refine goesL_ (some 59) rfl rfl Try.func180 (by kernel_rfl) rfl #[.slice (some ⟨g, 0, none⟩) i cap, .func (.func 158) #[] #[]] rfl Q59 ?_; (refine (sortfunc_S HB.out HO_5.out (by rw [← HL.out]; exact hp_) (by rw [← HL.out]; omega) (fun x hx => by rw [HXN.out] at hx; obtain ⟨y, hy, rfl⟩ := List.mem_map.1 hx; rw [sortL_length]; exact (HXX.out y hy).2)).mono ?_); rintro e w6 ⟨rfl, ys, hpm, hpw, ho1, hb1⟩; refine ⟨_, rfl, ?_⟩; have HYP := Aside0.mk hpm; have HYW := Aside0.mk hpw; replace HO_5 := Aside0.mk ho1; replace HB := Aside0.mk hb1) | ((with_reducible refine gate_callee (f := 181) rfl ?_); refine goesL_ (some 61) rfl rfl Try.func181 (by kernel_rfl) rfl #[.slice (some ⟨g, 0, none⟩) i cap, .func (.func 182) #[] #[]] rfl Q59 ?_; (refine (compact_S HB.out HO_5.out (by rw [HYP.out.length_eq, ← HL.out]; exact hp_) (by rw [HYP.out.length_eq, ← HL.out]; exact hn_) (fun x hx => by have hx2 := HYP.out.mem_iff.1 hx; rw [HXN.out] at hx2; obtain ⟨y, hy, rfl⟩ := List.mem_map.1 hx2; rw [sortL_length]; exact (HXX.out y hy).2)).mono ?_); rintro e w7 ⟨v7, rfl, ho1, hb1⟩; refine ⟨_, rfl, ?_⟩; replace HO_5 := Aside0.mk ho1; replace HB := Aside0.mk hb1))
        go_ret
        exact ⟨_, rfl, by have h_ := HO_5.out; rw [sorted_is HYP.out (HYW.out.imp (fun h_ => Int.not_lt.2 h_)), HXN.out] at h_; exact h_, HB.out⟩
/-! ### impl_netOf: function 101 -/
def impl_netOf.l0 : Nat → List (S71) → Int → Int → List Int → Option (List Int)
 | 0, _, _, _, _ => none
 | k + 1, x11, x12, x13, x107000 => if x13 < x12 then (if 0 ≤ x13 then (if x13 < (x11.length : Int) then (if 0 ≤ ((rd_T71 x11 x13).f0) then (if ((rd_T71 x11 x13).f0) < (x107000.length : Int) then (if 0 ≤ ((rd_T71 x11 x13).f1) then ((some (x107000.set (((rd_T71 x11 x13).f0) : Int).toNat (Go.bits .or .i64 (rd x107000 ((rd_T71 x11 x13).f0)) (shl .i64 1 ((rd_T71 x11 x13).f1))) : List Int)).bind fun y110 => (if ((rd_T71 x11 x13).f1) < (x107000.length : Int) then (impl_netOf.l0 k x11 x12 (wrap64 (x13 + 1)) (y110.set (((rd_T71 x11 x13).f1) : Int).toNat (Go.bits .or .i64 (rd y110 ((rd_T71 x11 x13).f1)) (shl .i64 1 ((rd_T71 x11 x13).f0))))) else (none))) else (none)) else (none)) else (none)) else (none)) else (none)) else (some x107000)
def impl_netOf.f (k : Nat) (a0_0 : Int) (l0_1 : List (S71)) : Option (List Int) := if 0 ≤ a0_0 then (if (a0_0 : Int).toNat ≤ 35184372088832 then (impl_netOf.l0 k l0_1 (l0_1.length : Int) 0 (List.replicate (a0_0 : Int).toNat 0)) else (none)) else (none)
theorem impl_netOf.mono_l : ∀ k, (∀ y0 y1 y2 y3, LeO (impl_netOf.l0 k y0 y1 y2 y3) (impl_netOf.l0 (k + 1) y0 y1 y2 y3))
 | 0 => fun _ _ _ _ r h => by simp [impl_netOf.l0] at h
 | k + 1 => by
  have ih0 := impl_netOf.mono_l k
  all_goals
   intros
   first | unfold impl_netOf.l0
   repeat' first | (with_reducible first | exact ih0 _ _ _ _ | exact LeO.refl _ | exact LeO.none _ | refine LeO.ite ?_ ?_ | refine LeO.bind ?_ (fun _ => ?_))
theorem impl_netOf.mono : ∀ a0 a1 k, LeO (impl_netOf.f k a0 a1) (impl_netOf.f (k + 1) a0 a1) := by
 intro a0 a1 k
 have ih0 := impl_netOf.mono_l k
 unfold impl_netOf.f
 repeat' first | (with_reducible first | exact ih0 _ _ _ _ | exact LeO.refl _ | exact LeO.none _ | refine LeO.ite ?_ ?_ | refine LeO.bind ?_ (fun _ => ?_))
def impl_netOf.T5 : Bool × List (List Nat × List Nat) := (true, [([], []), ([0], [0]), ([], []), ([2], [2]), ([1, 3], [1, 3]), ([4], [4]), ([], []), ([6], [6]), ([7], [7]), ([5, 8], [5, 8]), ([1, 3, 0, 1, 2, 3, 4, 5, 6, 7, 8, 9], [1, 3]), ([10, 9, 0, 1, 2, 3, 4, 5, 6, 7, 8, 9], [9, 10])])
def impl_netOf.B5 : List Nat := [0, 1, 0, 4, 15, 31, 0, 64, 192, 511, 1023, 2047]
theorem impl_netOf.tab5 : rtab .any (opsOf Try.f101 5) = impl_netOf.T5 := by kernel_rfl
theorem impl_netOf.bits5 : waitsOk impl_netOf.T5.2 impl_netOf.B5 = true := by kernel_rfl
def impl_netOf.T6 : Bool × List (List Nat × List Nat) := (true, [([], []), ([0], [0]), ([], []), ([2], [2]), ([1, 3], [1, 3]), ([4], [4]), ([], []), ([6], [6]), ([7], [7]), ([5, 8], [5, 8]), ([1, 3, 0, 1, 2, 3, 4, 5, 6, 7, 8, 9], [1, 3]), ([10, 9, 0, 1, 2, 3, 4, 5, 6, 7, 8, 9], [9, 10])])
def impl_netOf.B6 : List Nat := [0, 1, 0, 4, 15, 31, 0, 64, 192, 511, 1023, 2047]
theorem impl_netOf.tab6 : rtab .any (opsOf Try.f101 6) = impl_netOf.T6 := by kernel_rfl
theorem impl_netOf.bits6 : waitsOk impl_netOf.T6.2 impl_netOf.B6 = true := by kernel_rfl
set_option maxHeartbeats 8000000 in
set_option maxRecDepth 100000 in
theorem impl_netOf.calls (k : Nat) (a0_0 : Int) (A0_1 : Option Addr) (c0_1 : Nat) (l0_1 : List (S71)) (r : List Int) (w : World) (hr0_1 : Kd.C k71 w A0_1 l0_1.length l0_1) (hc0_1 : l0_1.length ≤ c0_1) (h : impl_netOf.f k a0_0 l0_1 = some r) :
  Calls Try.prog 101 #[.agg #[.int .i64 a0_0, .slice A0_1 l0_1.length c0_1]] w fun e w' => ∃ v0_ : Value, e = .returned (.agg #[v0_]) ∧ Kd.R (Kd.int .i64) 3 w' w.heap.size (fun _ => True) v0_ r ∧ Below w.heap.size w w' := by
 have hu30 := Try.underlying30
 have hu90 := Try.underlying90
 have hu71 := Try.underlying71
 have HR0_1 := Aside0.mk hr0_1
 have HC0_1 := Aside0.mk hc0_1
 clear hr0_1 hc0_1
 have HB := am (Below.refl w.heap.size w)
 have H : (if 0 ≤ a0_0 then (if (a0_0 : Int).toNat ≤ 35184372088832 then (impl_netOf.l0 k l0_1 (l0_1.length : Int) 0 (List.replicate (a0_0 : Int).toNat 0)) else (none)) else (none)) = some r := h
 clear h
 by_cases c2 : 0 ≤ a0_0
 ·rw [if_pos c2] at H
  have c2b0 := eq_true c2; have c2b1 := decide_eq_true c2; clear c2
  by_cases c3 : (a0_0 : Int).toNat ≤ 35184372088832
  ·rw [if_pos c3] at H
   have c3b0 := eq_true c3; have c3b1 := decide_eq_true c3; clear c3; obtain ⟨y103, hy103⟩ : ∃ y_ : List Int, y_ = (List.replicate (a0_0 : Int).toNat 0) := ⟨_, rfl⟩; replace H : (impl_netOf.l0 k l0_1 (l0_1.length : Int) 0 y103) = some r := RH hy103 H; have Ny103 := Aside0.mk hy103; clear hy103; have H' := Aside0.mk H; clear H
   go_enter Try.func101, Try.ntmps101
   go_wp2_with (first | ((with_reducible refine gate_dst (N := 1) rfl ?_); refine box_event ?hg (N := 1) ?hd (cs := #[.int .i64 a0_0, .slice A0_1 l0_1.length c0_1]) (t := 30) ?hr ?_; (case hd => rfl); (case hg => rfl); (case hr => first | (go_simp; done) | (go_simp; rfl)); intro gb101 hg w4 hbox hb; have BK101 := am (hbox); have GW101 := am ((Q26 : w.heap.size ≤ gb101)); have GE101 := am ((Q26 : w.heap.size ≤ gb101)); replace HB := am (below_step (Q0 HB) hb); clear hb hbox hg) | ((with_reducible refine gate_dst (N := 2) rfl ?_); refine box_event ?hg (N := 2) ?hd (cs := #[.slice none 0 0]) (t := 90) ?hr ?_; (case hd => rfl); (case hg => rfl); (case hr => first | (go_simp; done) | (go_simp; rfl)); intro gb102 hg w5 hbox hb; have BK102 := am (hbox); have GW102 := am ((Q26 : w.heap.size ≤ gb102)); have GE102 := am ((Q26 : w.heap.size ≤ gb102)); replace HB := am (below_step (Q0 HB) hb); have NB101_102 := am ((Q65 : gb101 ≠ gb102)); have NB102_101 := am ((Q66 : gb102 ≠ gb101)); replace BK101 := am (blk_below (g := gb101) (o := .cells #[.int .i64 a0_0, .slice A0_1 l0_1.length c0_1] 30 (0, 0)) (Q1 BK101) hb); clear hb hbox hg; have hnb6 := NB101_102.out; have hnc6 := NB102_101.out; have hcz7_0 : w5.cell? ⟨gb101, 0, none⟩ = some (.int .i64 a0_0) := (blk_cell BK101.out 0).trans rfl; have hcz7_1 : w5.cell? ⟨gb101, 1, none⟩ = some (.slice A0_1 l0_1.length c0_1) := (blk_cell BK101.out 1).trans rfl; have hfz7_0 := blk_frozen BK101.out 0; have hfz7_1 := blk_frozen BK101.out 1) | ((with_reducible refine gate_dst (N := 8) rfl ?_); refine Kd.R_make (Kd.int .i64) _ 3 rfl (N := 8) rfl 25 _ _ rfl a0_0 rfl rfl Try.underlying25 (.int .i64 0) 8 info3 rfl (by decide) (by omega) 0 (ok := fun _ => True) (okp := fun _ => True) rfl (fun _ hk => hk) trivial (of_decide_eq_true Q4) (Nat.le_trans (Nat.mul_le_mul_right _ (of_decide_eq_true Q4 : a0_0.toNat ≤ 35184372088832)) (by omega)) (Below.refl _ _) (Nat.le_refl _) ?_; intro v104 w8 ho9 hb hg_ hnew_; clear hg_ hnew_; (first | rw [← Ny103.out] at ho9 | (simp only [Int.reduceToNat] at ho9; rw [← Ny103.out] at ho9)); have HO105 := am (Kd.R_lower ho9 (below_size (Q0 HB))); replace BK101 := am (blk_below (g := gb101) (o := .cells #[.int .i64 a0_0, .slice A0_1 l0_1.length c0_1] 30 (0, 0)) (Q1 BK101) hb); replace BK102 := am (blk_below (g := gb102) (o := .cells #[.slice none 0 0] 90 (0, 0)) (Q1 BK102) hb); replace HB := am (below_step (Q0 HB) hb); clear hb ho9; obtain ⟨Ao10, co10, eo10⟩ := Kd.R_slice HO105.out; subst eo10) | ((with_reducible refine gate_dst (N := 3) rfl ?_); refine box_event ?hg (N := 3) ?hd (cs := #[.slice none 0 0]) (t := 90) ?hr ?_; (case hd => rfl); (case hg => rfl); (case hr => first | (go_simp; done) | (go_simp; rfl)); intro gb106 hg w11 hbox hb; replace HO105 := am (Kd.R_below (Q2 HO105) hb); have BK106 := am (hbox); have GW106 := am ((Q26 : w.heap.size ≤ gb106)); have GE106 := am ((Q26 : w.heap.size ≤ gb106)); replace HB := am (below_step (Q0 HB) hb); have NB101_106 := am ((Q65 : gb101 ≠ gb106)); have NB106_101 := am ((Q66 : gb106 ≠ gb101)); replace BK101 := am (blk_below (g := gb101) (o := .cells #[.int .i64 a0_0, .slice A0_1 l0_1.length c0_1] 30 (0, 0)) (Q1 BK101) hb); have NB102_106 := am ((by rw [hg]; exact Nat.ne_of_lt (blk_lt (g := gb102) (o := .cells #[.slice none 0 0] 90 (0, 0)) (Q1 BK102)) : gb102 ≠ gb106)); have NB106_102 := am ((by rw [hg]; exact Nat.ne_of_gt (blk_lt (g := gb102) (o := .cells #[.slice none 0 0] 90 (0, 0)) (Q1 BK102)) : gb106 ≠ gb102)); replace BK102 := am (blk_below (g := gb102) (o := .cells #[.slice none 0 0] 90 (0, 0)) (Q1 BK102) hb); clear hb hbox hg; have hnb12 := NB106_101.out; have hnc12 := NB101_106.out; have hnb13 := NB106_102.out; have hnc13 := NB102_106.out; have hcz14_0 : w11.cell? ⟨gb106, 0, none⟩ = some (.slice none 0 0) := (blk_cell BK106.out 0).trans rfl; have hfz14_0 := blk_frozen BK106.out 0; have hcz15_0 : w11.cell? ⟨gb101, 0, none⟩ = some (.int .i64 a0_0) := (blk_cell BK101.out 0).trans rfl; have hcz15_1 : w11.cell? ⟨gb101, 1, none⟩ = some (.slice A0_1 l0_1.length c0_1) := (blk_cell BK101.out 1).trans rfl; have hfz15_0 := blk_frozen BK101.out 0; have hfz15_1 := blk_frozen BK101.out 1))
   go_loopg [13] k (fun kq v13 w' => ∃ (x13_1 : Int) (x107000_1 : List Int) (u107000 : Value), v13 = .int .i64 x13_1 ∧ Aside0 (impl_netOf.l0 kq l0_1 (l0_1.length : Int) x13_1 x107000_1 = some r) ∧ Aside0 (kq ≤ k) ∧ Aside0 (Kd.R (Kd.int .i64) 3 w' w.heap.size (fun _ => True) u107000 x107000_1) ∧ Aside0 (w'.heap[gb101]? = some (.cells #[.int .i64 a0_0, (.slice A0_1 l0_1.length c0_1)] 30 (0, 0))) ∧ Aside0 (w'.heap[gb102]? = some (.cells #[(.slice none 0 0)] 90 (0, 0))) ∧ Aside0 (w'.heap[gb106]? = some (.cells #[u107000] 90 (0, 0))) ∧ Aside0 (Below w.heap.size w w'))
   case atStart => exact ⟨(0), (y103), (.slice Ao10 y103.length co10), Q8, H', ⟨Nat.le_refl _⟩, ⟨by (with_reducible repeat (first | apply Kd.R_alloc | apply Kd.R_drewN | apply Kd.R_drew)); exact Kd.R_mono (Kd.R_far (p := ⟨gb106, 0, none⟩) (Kd.R_types HO105.out BK106.out (by decide)) (fun _ hk => hk.2) (.slice Ao10 y103.length co10)) (fun _ hk => trivial)⟩, ⟨Q40 NB101_106 BK101⟩, ⟨Q40 NB102_106 BK102⟩, ⟨Q69 BK106⟩, ⟨Q13 HB GE106⟩⟩
   case round =>
    clear H'
    try clear c1
    try clear c2
    try clear c2b0
    try clear c2b1
    try clear p2
    try clear c3
    try clear c3b0
    try clear c3b1
    try clear c6
    try clear c10
    try clear c12
    try clear c13
    try clear hcz14_0
    try clear hcz15_0
    try clear hcz15_1
    try clear hcz7_0
    try clear hcz7_1
    try clear hfz14_0
    try clear hfz15_0
    try clear hfz15_1
    try clear hfz7_0
    try clear hfz7_1
    obtain ⟨x13_1, x107000_1, u107000, rfl, HA, HK1, HO_107000, BK101, BK102, BK106, HB⟩ := hrel
    cases gk with
    | zero => exact absurd HA.out (by simp [impl_netOf.l0])
    | succ k1 =>
     have H := HA.out; clear HA
     simp only [impl_netOf.l0] at H
     by_cases c16 : x13_1 < (l0_1.length : Int)
     ·rw [if_pos c16] at H
      have c16b0 := decide_eq_true c16; clear c16
      by_cases c17 : 0 ≤ x13_1
      ·rw [if_pos c17] at H
       have c17b0 := decide_eq_true c17; clear c17
       by_cases c18 : x13_1 < (l0_1.length : Int)
       ·rw [if_pos c18] at H
        have c18b0 := decide_eq_true c18; clear c18
        by_cases c19 : 0 ≤ ((rd_T71 l0_1 x13_1).f0)
        ·rw [if_pos c19] at H
         have c19b0 := decide_eq_true c19; clear c19
         by_cases c20 : ((rd_T71 l0_1 x13_1).f0) < (x107000_1.length : Int)
         ·rw [if_pos c20] at H
          have c20b0 := decide_eq_true c20; clear c20
          by_cases c21 : 0 ≤ ((rd_T71 l0_1 x13_1).f1)
          ·rw [if_pos c21] at H
           have c21b0 := eq_true c21; have c21b1 := decide_eq_true c21; clear c21; obtain ⟨ji22, hji22⟩ : ∃ j_ : Int, (shl .i64 1 ((rd_T71 l0_1 x13_1).f1)) = j_ := ⟨_, rfl⟩; replace H : ((some (x107000_1.set (((rd_T71 l0_1 x13_1).f0) : Int).toNat (Go.bits .or .i64 (rd x107000_1 ((rd_T71 l0_1 x13_1).f0)) (ji22)) : List Int)).bind fun y110 => (if ((rd_T71 l0_1 x13_1).f1) < (x107000_1.length : Int) then (impl_netOf.l0 k1 l0_1 (l0_1.length : Int) (wrap64 (x13_1 + 1)) (y110.set (((rd_T71 l0_1 x13_1).f1) : Int).toNat (Go.bits .or .i64 (rd y110 ((rd_T71 l0_1 x13_1).f1)) (shl .i64 1 ((rd_T71 l0_1 x13_1).f0))))) else (none))) = some r := by first | (rw [hji22] at H; exact H) | (simp only [hji22] at H ⊢; exact H)
           have hji22_ : (IntKind.i64.wrap (1 * 2 ^ min ((rd_T71 l0_1 x13_1).f1).toNat 64)) = ji22 := hji22; have hji22z : ((rd_T71 l0_1 x13_1).f1) ≤ 64 → (IntKind.i64.wrap (1 * 2 ^ ((rd_T71 l0_1 x13_1).f1).toNat)) = ji22 := shl_small hji22; have hji22u : (IntKind.i64.wrap (2 ^ min ((rd_T71 l0_1 x13_1).f1).toNat 64)) = ji22 := by have h_ := hji22_; rw [Int.one_mul] at h_; exact h_
           have hji22v : ((rd_T71 l0_1 x13_1).f1) ≤ 64 → (IntKind.i64.wrap (2 ^ ((rd_T71 l0_1 x13_1).f1).toNat)) = ji22 := fun hle_ => by have h_ := hji22z hle_; rw [Int.one_mul] at h_; exact h_
           have hji22y : (wrap64 (1 * 2 ^ min ((rd_T71 l0_1 x13_1).f1).toNat 64)) = ji22 := (i64_w _).symm.trans hji22_; have hji22x : ((rd_T71 l0_1 x13_1).f1) ≤ 64 → (wrap64 (1 * 2 ^ ((rd_T71 l0_1 x13_1).f1).toNat)) = ji22 := fun h_ => (i64_w _).symm.trans (hji22z h_)
           obtain ⟨y110, hy110⟩ : ∃ y_ : List Int, y_ = (x107000_1.set (((rd_T71 l0_1 x13_1).f0) : Int).toNat (Go.bits .or .i64 (rd x107000_1 ((rd_T71 l0_1 x13_1).f0)) (ji22))) := ⟨_, rfl⟩; replace H : (if ((rd_T71 l0_1 x13_1).f1) < (x107000_1.length : Int) then (impl_netOf.l0 k1 l0_1 (l0_1.length : Int) (wrap64 (x13_1 + 1)) (y110.set (((rd_T71 l0_1 x13_1).f1) : Int).toNat (Go.bits .or .i64 (rd y110 ((rd_T71 l0_1 x13_1).f1)) (shl .i64 1 ((rd_T71 l0_1 x13_1).f0))))) else (none)) = some r := RH hy110 H; have Ny110 := Aside0.mk hy110; clear hy110
           by_cases c24 : ((rd_T71 l0_1 x13_1).f1) < (x107000_1.length : Int)
           ·rw [if_pos c24] at H
            have c24b0 := decide_eq_true c24; clear c24; have c25b0 := eq_true (of_decide_eq_true Q4 : 0 ≤ ((rd_T71 l0_1 x13_1).f0)); obtain ⟨ji26, hji26⟩ : ∃ j_ : Int, (shl .i64 1 ((rd_T71 l0_1 x13_1).f0)) = j_ := ⟨_, rfl⟩; replace H : (impl_netOf.l0 k1 l0_1 (l0_1.length : Int) (wrap64 (x13_1 + 1)) (y110.set (((rd_T71 l0_1 x13_1).f1) : Int).toNat (Go.bits .or .i64 (rd y110 ((rd_T71 l0_1 x13_1).f1)) (ji26)))) = some r := by first | (rw [hji26] at H; exact H) | (simp only [hji26] at H ⊢; exact H)
            have hji26_ : (IntKind.i64.wrap (1 * 2 ^ min ((rd_T71 l0_1 x13_1).f0).toNat 64)) = ji26 := hji26; have hji26z : ((rd_T71 l0_1 x13_1).f0) ≤ 64 → (IntKind.i64.wrap (1 * 2 ^ ((rd_T71 l0_1 x13_1).f0).toNat)) = ji26 := shl_small hji26; have hji26u : (IntKind.i64.wrap (2 ^ min ((rd_T71 l0_1 x13_1).f0).toNat 64)) = ji26 := by have h_ := hji26_; rw [Int.one_mul] at h_; exact h_
            have hji26v : ((rd_T71 l0_1 x13_1).f0) ≤ 64 → (IntKind.i64.wrap (2 ^ ((rd_T71 l0_1 x13_1).f0).toNat)) = ji26 := fun hle_ => by have h_ := hji26z hle_; rw [Int.one_mul] at h_; exact h_
            have hji26y : (wrap64 (1 * 2 ^ min ((rd_T71 l0_1 x13_1).f0).toNat 64)) = ji26 := (i64_w _).symm.trans hji26_; have hji26x : ((rd_T71 l0_1 x13_1).f0) ≤ 64 → (wrap64 (1 * 2 ^ ((rd_T71 l0_1 x13_1).f0).toNat)) = ji26 := fun h_ => (i64_w _).symm.trans (hji26z h_)
            obtain ⟨y112, hy112⟩ : ∃ y_ : List Int, y_ = (y110.set (((rd_T71 l0_1 x13_1).f1) : Int).toNat (Go.bits .or .i64 (rd y110 ((rd_T71 l0_1 x13_1).f1)) (ji26))) := ⟨_, rfl⟩; replace H : (impl_netOf.l0 k1 l0_1 (l0_1.length : Int) (wrap64 (x13_1 + 1)) y112) = some r := RH hy112 H; have Ny112 := Aside0.mk hy112; clear hy112; have H' := Aside0.mk H; clear H; have p107 : 0 ≤ (x13_1 : Int) := of_decide_eq_true Q4; have q107 : x13_1 < (l0_1.length : Int) := of_decide_eq_true Q4; obtain ⟨ad107, e107, hx107_0, hx107_1⟩ := at_T71 HR0_1.out x13_1 p107 q107
            cases e107
            replace hx107_0 := (HB.out.cell (World.block_lt_of_cell? w _ hx107_0)).trans hx107_0; replace hx107_1 := (HB.out.cell (World.block_lt_of_cell? w _ hx107_1)).trans hx107_1; replace p107 := eq_true p107; replace q107 := eq_true q107
            try go_wp2_with (first | ((with_reducible refine gate_dst (N := 5) rfl ?_); refine box_event ?hg (N := 5) ?hd (cs := #[.int .i64 0, .int .i64 0]) (t := 71) ?hr ?_; (case hd => rfl); (case hg => rfl); (case hr => first | (go_simp; done) | (go_simp; rfl)); intro gb108 hg w28 hbox hb; replace HO_107000 := am (Kd.R_below (by (with_reducible repeat (first | apply Kd.R_alloc | apply Kd.R_drewN | apply Kd.R_drew)); exact HO_107000.out) hb); have BK108 := am (hbox); have GW108 := am ((Q26 : w.heap.size ≤ gb108)); have GE108 := am ((Q26 : w.heap.size ≤ gb108)); replace HB := am (below_step (Q0 HB) hb); have NB101_108 := am ((by rw [hg]; exact Nat.ne_of_lt (blk_lt (g := gb101) (o := .cells #[.int .i64 a0_0, .slice (some ad107) l0_1.length c0_1] 30 (0, 0)) (Q1 BK101)) : gb101 ≠ gb108)); have NB108_101 := am ((by rw [hg]; exact Nat.ne_of_gt (blk_lt (g := gb101) (o := .cells #[.int .i64 a0_0, .slice (some ad107) l0_1.length c0_1] 30 (0, 0)) (Q1 BK101)) : gb108 ≠ gb101)); replace BK101 := am (blk_below (g := gb101) (o := .cells #[.int .i64 a0_0, .slice (some ad107) l0_1.length c0_1] 30 (0, 0)) (Q1 BK101) hb); have NB102_108 := am ((by rw [hg]; exact Nat.ne_of_lt (blk_lt (g := gb102) (o := .cells #[.slice none 0 0] 90 (0, 0)) (Q1 BK102)) : gb102 ≠ gb108)); have NB108_102 := am ((by rw [hg]; exact Nat.ne_of_gt (blk_lt (g := gb102) (o := .cells #[.slice none 0 0] 90 (0, 0)) (Q1 BK102)) : gb108 ≠ gb102)); replace BK102 := am (blk_below (g := gb102) (o := .cells #[.slice none 0 0] 90 (0, 0)) (Q1 BK102) hb); have NB106_108 := am ((by rw [hg]; exact Nat.ne_of_lt (blk_lt (g := gb106) (o := .cells #[u107000] 90 (0, 0)) (Q1 BK106)) : gb106 ≠ gb108)); have NB108_106 := am ((by rw [hg]; exact Nat.ne_of_gt (blk_lt (g := gb106) (o := .cells #[u107000] 90 (0, 0)) (Q1 BK106)) : gb108 ≠ gb106)); replace BK106 := am (blk_below (g := gb106) (o := .cells #[u107000] 90 (0, 0)) (Q1 BK106) hb); clear hb hbox hg; have hnb29 := NB108_101.out; have hnc29 := NB101_108.out; have hnb30 := NB108_102.out; have hnc30 := NB102_108.out; have hnb31 := NB108_106.out; have hnc31 := NB106_108.out; have hcz32_0 : w28.cell? ⟨gb108, 0, none⟩ = some (.int .i64 0) := (blk_cell BK108.out 0).trans rfl; have hcz32_1 : w28.cell? ⟨gb108, 1, none⟩ = some (.int .i64 0) := (blk_cell BK108.out 1).trans rfl; have hfz32_0 := blk_frozen BK108.out 0; have hfz32_1 := blk_frozen BK108.out 1))
            have n0_ : Aside0 (Kd.R (Kd.int .i64) 3 ((w28.setCell ⟨gb108, 0, none⟩ (.int .i64 ((rd_T71 l0_1 x13_1).f0))).setCell ⟨gb108, 1, none⟩ (.int .i64 ((rd_T71 l0_1 x13_1).f1))) w.heap.size (fun _ => True) u107000 x107000_1) := ⟨by (with_reducible repeat (first | apply Kd.R_alloc | apply Kd.R_drewN | apply Kd.R_drew)); exact Kd.R_mono (Kd.R_far (p := ⟨gb108, 1, none⟩) (Kd.R_far (p := ⟨gb108, 0, none⟩) (Kd.R_types HO_107000.out BK108.out (by decide)) (fun _ hk => hk.2) (.int .i64 ((rd_T71 l0_1 x13_1).f0))) (fun _ hk => hk.2) (.int .i64 ((rd_T71 l0_1 x13_1).f1))) (fun _ hk => trivial)⟩; have n1_ : Aside0 (((w28.setCell ⟨gb108, 0, none⟩ (.int .i64 ((rd_T71 l0_1 x13_1).f0))).setCell ⟨gb108, 1, none⟩ (.int .i64 ((rd_T71 l0_1 x13_1).f1))).heap[gb101]? = some (.cells #[.int .i64 a0_0, .slice (some ad107) l0_1.length c0_1] 30 (0, 0))) := ⟨Q11 NB101_108 BK101⟩; have n2_ : Aside0 (((w28.setCell ⟨gb108, 0, none⟩ (.int .i64 ((rd_T71 l0_1 x13_1).f0))).setCell ⟨gb108, 1, none⟩ (.int .i64 ((rd_T71 l0_1 x13_1).f1))).heap[gb102]? = some (.cells #[.slice none 0 0] 90 (0, 0))) := ⟨Q11 NB102_108 BK102⟩; have n3_ : Aside0 (((w28.setCell ⟨gb108, 0, none⟩ (.int .i64 ((rd_T71 l0_1 x13_1).f0))).setCell ⟨gb108, 1, none⟩ (.int .i64 ((rd_T71 l0_1 x13_1).f1))).heap[gb106]? = some (.cells #[u107000] 90 (0, 0))) := ⟨Q11 NB106_108 BK106⟩; have n4_ : Aside0 (((w28.setCell ⟨gb108, 0, none⟩ (.int .i64 ((rd_T71 l0_1 x13_1).f0))).setCell ⟨gb108, 1, none⟩ (.int .i64 ((rd_T71 l0_1 x13_1).f1))).heap[gb108]? = some (.cells #[.int .i64 ((rd_T71 l0_1 x13_1).f0), .int .i64 ((rd_T71 l0_1 x13_1).f1)] 71 (0, 0))) := ⟨by (with_reducible repeat (first | refine blk_drewN ?_ _ | refine blk_drew ?_ | refine blk_alloc ?_ _)); refine blk_put (cs := #[.int .i64 ((rd_T71 l0_1 x13_1).f0), .int .i64 0]) ?_ 1 _ rfl; (with_reducible repeat (first | refine blk_drewN ?_ _ | refine blk_drew ?_ | refine blk_alloc ?_ _)); refine blk_put (cs := #[.int .i64 0, .int .i64 0]) ?_ 0 _ rfl; (with_reducible repeat (first | refine blk_drewN ?_ _ | refine blk_drew ?_ | refine blk_alloc ?_ _)); exact BK108.out⟩; have n5_ : Aside0 (Below w.heap.size w ((w28.setCell ⟨gb108, 0, none⟩ (.int .i64 ((rd_T71 l0_1 x13_1).f0))).setCell ⟨gb108, 1, none⟩ (.int .i64 ((rd_T71 l0_1 x13_1).f1)))) := ⟨Q13 HB GE108⟩; (try clear HO_107000); (try clear BK101); (try clear BK102); (try clear BK106); (try clear BK108); (try clear HB); generalize ((w28.setCell ⟨gb108, 0, none⟩ (.int .i64 ((rd_T71 l0_1 x13_1).f0))).setCell ⟨gb108, 1, none⟩ (.int .i64 ((rd_T71 l0_1 x13_1).f1))) = w33 at n0_ n1_ n2_ n3_ n4_ n5_ ⊢; have HO_107000 := n0_; have BK101 := n1_; have BK102 := n2_; have BK106 := n3_; have BK108 := n4_; have HB := n5_; clear n0_ n1_ n2_ n3_ n4_ n5_; replace HO_107000 := am (Kd.R_drew HO_107000.out); replace BK101 := am (blk_drew BK101.out); replace BK102 := am (blk_drew BK102.out); replace BK106 := am (blk_drew BK106.out); replace BK108 := am (blk_drew BK108.out); replace HB := am (below_drew1 HB.out); obtain ⟨Ao35, co35, eo35⟩ := Kd.R_slice HO_107000.out
            (first | subst eo35 | (injection eo35 with f1_ f2_ f3_; have f4_ := f1_.symm; have f5_ := f3_.symm; clear f1_ f2_ f3_; subst f4_; subst f5_))
            have p109 : 0 ≤ (((rd_T71 l0_1 x13_1).f0) : Int) := of_decide_eq_true Q4; have q109 : ((rd_T71 l0_1 x13_1).f0) < (x107000_1.length : Int) := of_decide_eq_true Q4; obtain ⟨ad109, e109, hx109_0⟩ := Kd.at_int (Kd.R_reads' HO_107000.out).2.2 ((rd_T71 l0_1 x13_1).f0) p109 q109
            cases e109
            replace p109 := eq_true p109; replace q109 := eq_true q109; have p23 : 0 ≤ (((rd_T71 l0_1 x13_1).f0) : Int) := of_decide_eq_true Q4; have q23 : (((rd_T71 l0_1 x13_1).f0) : Int) < ((x107000_1.length : Int) : Int) := of_decide_eq_true Q4; obtain ⟨go23, co23, eo23, gb23, gl23, cl23, HG23⟩ := Kd.R_form HO_107000.out (by omega)
            (first | cases eo23 | (injection eo23 with ea_ en_ ec_; (first | subst ea_ | (injection ea_ with ea_; subst ea_)); subst ec_; clear en_))
            have GB23 := Aside0.mk gb23; have GG23 := Aside0.mk HG23; clear gb23 gl23 HG23
            (first | simp only [add_plain] at hx109_0 | skip)
            obtain ⟨hx23_0, hf23_0⟩ := Kd.R_celln 0 HO_107000.out (((rd_T71 l0_1 x13_1).f0) : Int) p23 q23; replace p23 := eq_true p23; replace q23 := eq_true q23; have HP36 := Kd.R_putn HO_107000.out (((rd_T71 l0_1 x13_1).f0) : Int) (Go.bits .or .i64 (rd x107000_1 ((rd_T71 l0_1 x13_1).f0)) (ji22)); rw [← Ny110.out] at HP36; have HQ36 := Aside0.mk HP36; clear HP36; refine start_ (n := 12) (S := fun w' => w'.cell? ⟨gb106, 0, none⟩ = some (.slice (some ⟨go23, 0, none⟩) x107000_1.length co35) ∧ w'.cell? ⟨gb108, 0, none⟩ = some (.int .i64 ((rd_T71 l0_1 x13_1).f0)) ∧ w'.cell? ⟨gb108, 1, none⟩ = some (.int .i64 ((rd_T71 l0_1 x13_1).f1)) ∧ w'.cell? ⟨go23, (((rd_T71 l0_1 x13_1).f0)).toNat, none⟩ = some (.int .i64 (rd x107000_1 ((rd_T71 l0_1 x13_1).f0)))) (ds := [11]) #[false, false, false, false, false, false, false, false, false, false, false, false] (by kernel_rfl) rfl rfl ⟨(blk_cell BK106.out 0).trans rfl, (blk_cell BK108.out 0).trans rfl, (blk_cell BK108.out 1).trans rfl, hx109_0⟩ (fun hHeld => ?_); refine with_tabW impl_netOf.tab5 impl_netOf.bits5 (fun HT_ HW_ => ?_); generalize w33.drew = w34 at HO_107000 BK101 BK102 BK106 BK108 HB GG23 HQ36 hf23_0 hx109_0 hx23_0 hHeld ⊢; refine pq 0 17 rfl rfl HT_ ?_; refine pq 2 19 rfl rfl HT_ ?_; refine pq 6 23 rfl rfl HT_ ?_; refine tq4 1 18 rfl rfl HT_ HW_ hHeld ?_; refine tq4 3 20 rfl rfl HT_ HW_ hHeld ?_; refine pq 4 21 rfl rfl HT_ ?_; refine tq4 5 22 rfl rfl HT_ HW_ hHeld ?_; refine tq4 7 24 rfl rfl HT_ HW_ hHeld ?_; refine pq 8 25 rfl rfl HT_ ?_; refine pq 9 26 rfl rfl HT_ ?_; refine pq 10 27 rfl rfl HT_ ?_; refine last_ (i := 11) (N := none) #[true, true, true, true, true, true, true, true, true, true, true, true] rfl rfl (one_of HT_.out (by kernel_rfl)) (by decide) (fun K hK => ?_); refine skip_ (w1 := ?_) (by rfl) rfl ?_ ?_
            rotate_left
            ·go_simp
             rfl
            refine hK.out _ _ ?_; clear hK K; refine done_ (done_of HT_.out (by kernel_rfl)) ?_
            try go_wp2
            have n0_ : Aside0 (Kd.R (Kd.int .i64) 3 (w34.setCell ⟨go23, (((rd_T71 l0_1 x13_1).f0) : Int).toNat, none⟩ (.int .i64 (Go.bits .or .i64 (rd x107000_1 ((rd_T71 l0_1 x13_1).f0)) (ji22)))) w.heap.size (fun _ => True) (.slice (some ⟨go23, 0, none⟩) x107000_1.length co35) y110) := ⟨by (with_reducible repeat (first | apply Kd.R_alloc | apply Kd.R_drewN | apply Kd.R_drew)); exact HQ36.out⟩; have n1_ : Aside0 ((w34.setCell ⟨go23, (((rd_T71 l0_1 x13_1).f0) : Int).toNat, none⟩ (.int .i64 (Go.bits .or .i64 (rd x107000_1 ((rd_T71 l0_1 x13_1).f0)) (ji22)))).heap[gb101]? = some (.cells #[.int .i64 a0_0, .slice (some ad107) l0_1.length c0_1] 30 (0, 0))) := ⟨Q27 BK101⟩; have n2_ : Aside0 ((w34.setCell ⟨go23, (((rd_T71 l0_1 x13_1).f0) : Int).toNat, none⟩ (.int .i64 (Go.bits .or .i64 (rd x107000_1 ((rd_T71 l0_1 x13_1).f0)) (ji22)))).heap[gb102]? = some (.cells #[.slice none 0 0] 90 (0, 0))) := ⟨Q27 BK102⟩; have n3_ : Aside0 ((w34.setCell ⟨go23, (((rd_T71 l0_1 x13_1).f0) : Int).toNat, none⟩ (.int .i64 (Go.bits .or .i64 (rd x107000_1 ((rd_T71 l0_1 x13_1).f0)) (ji22)))).heap[gb106]? = some (.cells #[.slice (some ⟨go23, 0, none⟩) x107000_1.length co35] 90 (0, 0))) := ⟨Q27 BK106⟩; have n4_ : Aside0 ((w34.setCell ⟨go23, (((rd_T71 l0_1 x13_1).f0) : Int).toNat, none⟩ (.int .i64 (Go.bits .or .i64 (rd x107000_1 ((rd_T71 l0_1 x13_1).f0)) (ji22)))).heap[gb108]? = some (.cells #[.int .i64 ((rd_T71 l0_1 x13_1).f0), .int .i64 ((rd_T71 l0_1 x13_1).f1)] 71 (0, 0))) := ⟨Q27 BK108⟩; have n5_ : Aside0 (Below w.heap.size w (w34.setCell ⟨go23, (((rd_T71 l0_1 x13_1).f0) : Int).toNat, none⟩ (.int .i64 (Go.bits .or .i64 (rd x107000_1 ((rd_T71 l0_1 x13_1).f0)) (ji22))))) := ⟨by repeat (first | (with_reducible first | exact HB.out | apply below_alloc | apply pw_below_drewN | apply below_drew1 | refine below_set ?_ GB23.out) | exact HB.out)⟩; (try clear HO_107000); (try clear BK101); (try clear BK102); (try clear BK106); (try clear BK108); (try clear HB); generalize (w34.setCell ⟨go23, (((rd_T71 l0_1 x13_1).f0) : Int).toNat, none⟩ (.int .i64 (Go.bits .or .i64 (rd x107000_1 ((rd_T71 l0_1 x13_1).f0)) (ji22)))) = w37 at n0_ n1_ n2_ n3_ n4_ n5_ ⊢; have HO_107000 := n0_; have BK101 := n1_; have BK102 := n2_; have BK106 := n3_; have BK108 := n4_; have HB := n5_; clear n0_ n1_ n2_ n3_ n4_ n5_; replace HO_107000 := am (Kd.R_drew HO_107000.out); replace BK101 := am (blk_drew BK101.out); replace BK102 := am (blk_drew BK102.out); replace BK106 := am (blk_drew BK106.out); replace BK108 := am (blk_drew BK108.out); replace HB := am (below_drew1 HB.out); have p111 : 0 ≤ (((rd_T71 l0_1 x13_1).f1) : Int) := of_decide_eq_true Q4; have q111 : ((rd_T71 l0_1 x13_1).f1) < (y110.length : Int) := (by have h_ : (((rd_T71 l0_1 x13_1).f1) : Int) < ((x107000_1.length : Int) : Int) := of_decide_eq_true Q4; first | (have e_ := (Kd.R_reads' HO_107000.out).1; omega) | simpa only [Ny110.out, List.length_set] using h_); have ql111 : ((((rd_T71 l0_1 x13_1).f1) : Int) < ((x107000_1.length : Int) : Int)) = True := eq_true (of_decide_eq_true Q4); obtain ⟨ad111, e111, hx111_0⟩ := Kd.at_int (Kd.R_reads' HO_107000.out).2.2 ((rd_T71 l0_1 x13_1).f1) p111 q111; obtain rfl : (⟨go23, 0, none⟩ : Addr) = ad111 := (by injection e111)
            (first | simp only [add_plain] at hx111_0 | simp only [add_at] at hx111_0 | simp only [Addr.add, Nat.zero_add] at hx111_0 | skip)
            replace p111 := eq_true p111; replace q111 := eq_true q111; have p27 : 0 ≤ (((rd_T71 l0_1 x13_1).f1) : Int) := of_decide_eq_true Q4; have q27 : (((rd_T71 l0_1 x13_1).f1) : Int) < ((x107000_1.length : Int) : Int) := of_decide_eq_true Q4; obtain ⟨hx27_0, hf27_0⟩ := Kd.R_celln 0 HO_107000.out (((rd_T71 l0_1 x13_1).f1) : Int) p27 q27; replace p27 := eq_true p27; replace q27 := eq_true q27; have HP39 := Kd.R_putn HO_107000.out (((rd_T71 l0_1 x13_1).f1) : Int) (Go.bits .or .i64 (rd y110 ((rd_T71 l0_1 x13_1).f1)) (ji26)); rw [← Ny112.out] at HP39; have HQ39 := Aside0.mk HP39; clear HP39; refine start_ (n := 12) (S := fun w' => w'.cell? ⟨gb106, 0, none⟩ = some (.slice (some ⟨go23, 0, none⟩) x107000_1.length co35) ∧ w'.cell? ⟨gb108, 0, none⟩ = some (.int .i64 ((rd_T71 l0_1 x13_1).f0)) ∧ w'.cell? ⟨gb108, 1, none⟩ = some (.int .i64 ((rd_T71 l0_1 x13_1).f1)) ∧ w'.cell? ⟨go23, (((rd_T71 l0_1 x13_1).f1)).toNat, none⟩ = some (.int .i64 (rd y110 ((rd_T71 l0_1 x13_1).f1)))) (ds := [11]) #[false, false, false, false, false, false, false, false, false, false, false, false] (by kernel_rfl) rfl rfl ⟨(blk_cell BK106.out 0).trans rfl, (blk_cell BK108.out 0).trans rfl, (blk_cell BK108.out 1).trans rfl, hx111_0⟩ (fun hHeld => ?_); refine with_tabW impl_netOf.tab6 impl_netOf.bits6 (fun HT_ HW_ => ?_); generalize w37.drew = w38 at HO_107000 BK101 BK102 BK106 BK108 HB HQ36 HQ39 hf27_0 hx111_0 hx27_0 hHeld ⊢; refine pq 0 28 rfl rfl HT_ ?_; refine pq 2 30 rfl rfl HT_ ?_; refine pq 6 34 rfl rfl HT_ ?_; refine tq4 1 29 rfl rfl HT_ HW_ hHeld ?_; refine tq4 3 31 rfl rfl HT_ HW_ hHeld ?_; refine pq 4 32 rfl rfl HT_ ?_; refine tq4 5 33 rfl rfl HT_ HW_ hHeld ?_; refine tq4 7 35 rfl rfl HT_ HW_ hHeld ?_; refine pq 8 36 rfl rfl HT_ ?_; refine pq 9 37 rfl rfl HT_ ?_; refine pq 10 38 rfl rfl HT_ ?_; refine last_ (i := 11) (N := none) #[true, true, true, true, true, true, true, true, true, true, true, true] rfl rfl (one_of HT_.out (by kernel_rfl)) (by decide) (fun K hK => ?_); refine skip_ (w1 := ?_) (by rfl) rfl ?_ ?_
            rotate_left
            ·go_simp
             rfl
            refine hK.out _ _ ?_; clear hK K; refine done_ (done_of HT_.out (by kernel_rfl)) ?_
            try go_wp2
            go_roundg k1
            case measure => have := HK1.out; omega
            case rel => exact ⟨(wrap64 (x13_1 + 1)), (y112), (.slice (some ⟨go23, 0, none⟩) x107000_1.length co35), Q8, H', ⟨Q39⟩, ⟨by (with_reducible repeat (first | apply Kd.R_alloc | apply Kd.R_drewN | apply Kd.R_drew)); exact HQ39.out⟩, ⟨Q27 BK101⟩, ⟨Q27 BK102⟩, ⟨Q27 BK106⟩, ⟨by repeat (first | (with_reducible first | exact HB.out | apply below_alloc | apply pw_below_drewN | apply below_drew1 | refine below_set ?_ GB23.out) | exact HB.out)⟩⟩
           ·rw [if_neg c24] at H
            exact absurd H (by simp)
          ·rw [if_neg c21] at H
           exact absurd H (by simp)
         ·rw [if_neg c20] at H
          exact absurd H (by simp)
        ·rw [if_neg c19] at H
         exact absurd H (by simp)
       ·rw [if_neg c18] at H
        exact absurd H (by simp)
      ·rw [if_neg c17] at H
       exact absurd H (by simp)
     ·rw [if_neg c16] at H
      have c16b0 := decide_eq_false c16; clear c16; obtain rfl := Option.some.inj H; have hnb40 := NB106_101.out; have hnc40 := NB101_106.out; have hnb41 := NB106_102.out; have hnc41 := NB102_106.out; have hcz42_0 : wr.cell? ⟨gb106, 0, none⟩ = some (u107000) := (blk_cell BK106.out 0).trans rfl; have hfz42_0 := blk_frozen BK106.out 0; obtain ⟨Ao43, co43, eo43⟩ := Kd.R_slice HO_107000.out; subst eo43; have hnb44 := NB102_101.out; have hnc44 := NB101_102.out; have hcz45_0 : wr.cell? ⟨gb102, 0, none⟩ = some (.slice none 0 0) := (blk_cell BK102.out 0).trans rfl; have hfz45_0 := blk_frozen BK102.out 0
      go_wp2
      refine bodyPost_ret (results_cell_row rfl _ _ gb102 90 #[.slice Ao43 x107000_1.length co43] (0, 0) _ rfl (Q69 BK102) Try.underlying90 rfl (by kernel_rfl)) rfl ?_; exact ⟨_, Q9, by (with_reducible repeat (first | apply Kd.R_alloc | apply Kd.R_drewN | apply Kd.R_drew)); exact Kd.R_mono (Kd.R_far (p := ⟨gb102, 0, none⟩) (Kd.R_types HO_107000.out BK102.out (by decide)) (fun _ hk => hk.2) (.slice Ao43 x107000_1.length co43)) (fun _ hk => trivial), Q13 HB GE102⟩
  ·rw [if_neg c3] at H
   exact absurd H (by simp)
 ·rw [if_neg c2] at H
  exact absurd H (by simp)
/-! ### impl_CopMoves: function 13 -/
def impl_CopMoves.f (k : Nat) (a0_0 : Int) (l0_1 : List (S71)) (l1 : List Int) : Option ((List (List Int)) × Bool) := (impl_areCops.f k a0_0 l0_1 l1).bind fun t102 => (if t102 = true then ((impl_netOf.f k a0_0 l0_1).bind fun t103 => ((impl_net_copMoves.f k t103 l1).bind fun t106 => (some (t106, true)))) else (some (([] : List (List Int)), false)))
theorem impl_CopMoves.mono : ∀ a0 a1 a2 k, LeO (impl_CopMoves.f k a0 a1 a2) (impl_CopMoves.f (k + 1) a0 a1 a2) := by
 intro a0 a1 a2 k
 unfold impl_CopMoves.f
 repeat' first | (with_reducible first | exact impl_areCops.mono _ _ _ _ | exact impl_netOf.mono _ _ _ | exact impl_net_copMoves.mono _ _ _ | exact LeO.refl _ | exact LeO.none _ | refine LeO.ite ?_ ?_ | refine LeO.bind ?_ (fun _ => ?_))
set_option maxHeartbeats 8000000 in
set_option maxRecDepth 100000 in
theorem impl_CopMoves.calls (k : Nat) (a0_0 : Int) (A0_1 : Option Addr) (c0_1 : Nat) (l0_1 : List (S71)) (A1 : Option Addr) (c1 : Nat) (l1 : List Int) (r1 : List (List Int)) (r2 : Bool) (w : World) (hr0_1 : Kd.C k71 w A0_1 l0_1.length l0_1) (hc0_1 : l0_1.length ≤ c0_1) (hr1 : Kd.C (Kd.int .i64) w A1 l1.length l1) (hc1 : l1.length ≤ c1) (h : impl_CopMoves.f k a0_0 l0_1 l1 = some (r1, r2)) :
  Calls Try.prog 13 #[.agg #[.int .i64 a0_0, .slice A0_1 l0_1.length c0_1], .slice A1 l1.length c1] w fun e w' => ∃ v0_ : Value, e = .returned (.tuple #[v0_, .bool r2]) ∧ Kd.S (Kd.slice 3 (Kd.int .i64)) 25 w' w.heap.size (fun _ => True) v0_ r1 ∧ Below w.heap.size w w' := by
 have hu30 := Try.underlying30
 have HR0_1 := Aside0.mk hr0_1
 have HC0_1 := Aside0.mk hc0_1
 clear hr0_1 hc0_1
 have HR1 := Aside0.mk hr1
 have HC1 := Aside0.mk hc1
 clear hr1 hc1
 have HB := am (Below.refl w.heap.size w)
 have H : ((impl_areCops.f k a0_0 l0_1 l1).bind fun t102 => (if t102 = true then ((impl_netOf.f k a0_0 l0_1).bind fun t103 => ((impl_net_copMoves.f k t103 l1).bind fun t106 => (some (t106, true)))) else (some (([] : List (List Int)), false)))) = some (r1, r2) := h
 clear h
 replace H := (ob H)
 obtain ⟨t102, A30, H⟩ := H
 (try dsimp only at H)
 have A3 := Aside0.mk A30
 clear A30
 have HU4 := Aside0.mk H
 clear H
 go_enter Try.func13, Try.ntmps13
 go_upto_if 9 with (first | ((with_reducible refine gate_dst (N := 2) rfl ?_); refine box_event ?hg (N := 2) ?hd (cs := #[.int .i64 a0_0, .slice A0_1 l0_1.length c0_1]) (t := 30) ?hr ?_; (case hd => rfl); (case hg => rfl); (case hr => first | (go_simp; done) | (go_simp; rfl)); intro gb101 hg w5 hbox hb; have BK101 := am (hbox); have GW101 := am ((Q26 : w.heap.size ≤ gb101)); have GE101 := am ((Q26 : w.heap.size ≤ gb101)); replace HB := am (below_step (Q0 HB) hb); clear hb hbox hg; have hcz6_0 : w5.cell? ⟨gb101, 0, none⟩ = some (.int .i64 a0_0) := (blk_cell BK101.out 0).trans rfl; have hcz6_1 : w5.cell? ⟨gb101, 1, none⟩ = some (.slice A0_1 l0_1.length c0_1) := (blk_cell BK101.out 1).trans rfl; have hfz6_0 := blk_frozen BK101.out 0; have hfz6_1 := blk_frozen BK101.out 1) | ((with_reducible refine gate_callee (f := 100) rfl ?_); refine goesL_ (some 8) rfl rfl Try.func100 (by kernel_rfl) rfl #[.agg #[.int .i64 a0_0, .slice A0_1 l0_1.length c0_1], .slice A1 l1.length c1] rfl Q3 ?_; (with_reducible refine (impl_areCops.calls k a0_0 _ _ l0_1 _ _ l1 t102 _ ?side1 ?side2 ?side3 ?side4 A3.out).mono ?_); (case side1 => exact (Q6 HR0_1 HB)); (case side2 => exact HC0_1.out); (case side3 => exact (Q6 HR1 HB)); (case side4 => exact HC1.out); rintro e w7 ⟨rfl, hb⟩; refine ⟨_, rfl, ?_⟩; replace BK101 := am (blk_below (g := gb101) (o := .cells #[.int .i64 a0_0, .slice A0_1 l0_1.length c0_1] 30 (0, 0)) (Q1 BK101) hb); replace HB := am (below_step (Q0 HB) hb); (try clear hb); (try clear hb2); (try clear hk); (try clear hi)))
 (try simp only [Act.put, List.setIfInBounds_toArray, List.set_cons_zero, List.set_cons_succ])
 have H := HU4.out
 clear HU4
 by_cases c8 : t102 = true
 ·subst c8
  have H1 : ((impl_netOf.f k a0_0 l0_1).bind fun t103 => ((impl_net_copMoves.f k t103 l1).bind fun t106 => (some (t106, true)))) = some (r1, r2) := by rw [if_pos rfl] at H; exact H
  clear H; have H := H1; clear H1; replace H := (ob H); obtain ⟨t103, A90, H⟩ := H; (try dsimp only at H); have A9 := Aside0.mk A90; clear A90; replace H := (ob H); obtain ⟨t106, A100, H⟩ := H; (try dsimp only at H); have A10 := Aside0.mk A100; clear A100
  simp only [Option.some.injEq, Prod.mk.injEq] at H
  obtain ⟨rfl, rfl⟩ := H; have hcz11_0 : w7.cell? ⟨gb101, 0, none⟩ = some (.int .i64 a0_0) := (blk_cell BK101.out 0).trans rfl; have hcz11_1 : w7.cell? ⟨gb101, 1, none⟩ = some (.slice A0_1 l0_1.length c0_1) := (blk_cell BK101.out 1).trans rfl; have hfz11_0 := blk_frozen BK101.out 0; have hfz11_1 := blk_frozen BK101.out 1
  go_wp2_with (first | ((with_reducible refine gate_callee (f := 101) rfl ?_); refine goesL_ (some 11) rfl rfl Try.func101 (by kernel_rfl) rfl #[.agg #[.int .i64 a0_0, .slice A0_1 l0_1.length c0_1]] rfl Q3 ?_; (with_reducible refine (impl_netOf.calls k a0_0 _ _ l0_1 t103 _ ?side1 ?side2 A9.out).mono ?_); (case side1 => exact (Q6 HR0_1 HB)); (case side2 => exact HC0_1.out); rintro e w12 ⟨v104, rfl, ho0, hb⟩; refine ⟨_, rfl, ?_⟩; have HO105 := am (Kd.R_lower ho0 (below_size (Q0 HB))); replace BK101 := am (blk_below (g := gb101) (o := .cells #[.int .i64 a0_0, .slice A0_1 l0_1.length c0_1] 30 (0, 0)) (Q1 BK101) hb); replace HB := am (below_step (Q0 HB) hb); (try clear hb); (try clear hb2); (try clear hk); (try clear hi); (try clear ho0); obtain ⟨Ao13, co13, eo13⟩ := Kd.R_slice HO105.out; subst eo13) | ((with_reducible refine gate_callee (f := 102) rfl ?_); refine goesL_ (some 13) rfl rfl Try.func102 (by kernel_rfl) rfl #[.agg #[.slice Ao13 t103.length co13], .slice A1 l1.length c1] rfl Q3 ?_; (with_reducible refine (impl_net_copMoves.calls k _ _ t103 _ _ l1 t106 _ ?side1 ?side2 ?side3 ?side4 A10.out).mono ?_); (case side1 => exact (Q15 HO105)); (case side2 => exact (Kd.R_reads' HO105.out).2.1); (case side3 => exact (Q6 HR1 HB)); (case side4 => exact HC1.out); rintro e w14 ⟨v107, rfl, ho0, hb⟩; refine ⟨_, rfl, ?_⟩; have HO108 := am (Kd.S_lower (Kd.S_new' ho0 (Kd.R_lt (Q2 HO105))) (below_size (Q0 HB))); replace HO105 := am (Kd.R_below (Q2 HO105) hb); replace BK101 := am (blk_below (g := gb101) (o := .cells #[.int .i64 a0_0, .slice A0_1 l0_1.length c0_1] 30 (0, 0)) (Q1 BK101) hb); replace HB := am (below_step (Q0 HB) hb); (try clear hb); (try clear hb2); (try clear hk); (try clear hi); (try clear ho0)))
  go_ret2
  exact ⟨_, Q9, by (with_reducible repeat (first | apply Kd.S_alloc | apply Kd.S_drewN | apply Kd.S_drew)); exact Kd.S_mono HO108.out (fun _ hk => trivial), Q0 HB⟩
 ·replace c8 := Bool.eq_false_iff.mpr c8
  subst c8; have H1 : (some (([] : List (List Int)), false)) = some (r1, r2) := by rw [if_neg (show ¬ (false = true) by decide)] at H; exact H
  clear H; have H := H1; clear H1
  simp only [Option.some.injEq, Prod.mk.injEq] at H
  obtain ⟨rfl, rfl⟩ := H
  go_wp2
  go_ret2
  exact ⟨_, Q9, by first | exact Kd.S_nil _ _ _ _ _ | exact Kd.N_nil _ _ _ _ _ | exact Kd.V_nil _ _ _ _ _ | exact Kd.Q_nil _ _ _ _ _ | exact Kd.R_nil _ _ _ _ _, Q0 HB⟩
end Go.Proofs.Ytcjddikalgnhpaa.P
