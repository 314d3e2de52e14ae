/- Functions of the program as Lean functions, that each call comes to what they say, and what holds of them; part 16 of 16; no conditions beyond those that each theorem names. -/
import Derived.Test.YtcjddikalgnhpaaK1
import Derived.Test.YtcjddikalgnhpaaK4
import Derived.Test.YtcjddikalgnhpaaK6
import Derived.Test.YtcjddikalgnhpaaK7
import Derived.Test.YtcjddikalgnhpaaK8
import Derived.Test.YtcjddikalgnhpaaK9
import Derived.Test.YtcjddikalgnhpaaK10
import Derived.Test.YtcjddikalgnhpaaK13
import Derived.Test.YtcjddikalgnhpaaK14
import Derived.Test.YtcjddikalgnhpaaK15
namespace Go.Proofs.Ytcjddikalgnhpaa.Gr
open Go.RowKit Go.Proofs.Ytcjddikalgnhpaa.P Go.Proofs.YtcjddikalgnhpaaW.PrintWords Go.Proofs.YtcjddikalgnhpaaW.PrintLast Go.Proofs.YtcjddikalgnhpaaW.PrintMore
theorem rInts_same (l : List Int) (hl : l.length ≤ 1048576) : Ev (fun k => laws_rInts.f k l l) true := by
  refine Cm.ev ?_
  unfold laws_rInts.f
  refine Cm.pos rfl (Cm.up (fun k i (_ : Unit) => laws_rInts.l0 k l l i) l.length (fun i _ => 0 ≤ i) _ ?_ 0 () (by omega) (by omega))
  rintro i - hi i0 ih
  by_cases h : i < l.length
  · exact Cm.step (fun k => by simp (disch := omega) only [laws_rInts.l0, if_pos h, if_pos i0, if_true, w64 (i + 1)]; try rfl) (ih () h (by omega))
  · exact Cm.step (fun k => by simp only [laws_rInts.l0, if_neg h]; try rfl) (Cm.now rfl)
theorem rTable_same (l : List (List Int)) (hl : l.length ≤ 1048576) (hr : ∀ x ∈ l, List.length x ≤ 1048576) : Ev (fun k => laws_rTable.f k l l) true := by
  refine Cm.ev ?_
  unfold laws_rTable.f
  refine Cm.pos rfl (Cm.up (fun k i (_ : Unit) => laws_rTable.l0 k l l i) l.length (fun i _ => 0 ≤ i) _ ?_ 0 () (by omega) (by omega))
  rintro i - hi i0 ih
  by_cases h : i < l.length
  · have hm : rd_L6 l i ∈ l := by
      have e : rd_L6 l i = l[i.toNat]'(by omega) := by
        have : rd_L6 l i = l.getD i.toNat [] := rfl
        rw [this, List.getD_eq_getElem?_getD, List.getElem?_eq_getElem (by omega)]
        rfl
      rw [e]
      exact List.getElem_mem _
    refine Cm.step (fun k => by simp (disch := omega) only [laws_rTable.l0, if_pos h, if_pos i0, w64 (i + 1)]; try rfl) ?_
    exact Cm.bindE (rInts_same _ (hr _ hm)) (Cm.pos rfl (ih () h (by omega)))
  · exact Cm.step (fun k => by simp only [laws_rTable.l0, if_neg h]; try rfl) (Cm.now rfl)
theorem rHas_ev (L : List Int) (x : Int) (hl : L.length ≤ 1048576) : Ev (fun k => laws_rHas.f k L x) (decide (x ∈ L)) := by
  refine Cm.ev ?_
  unfold laws_rHas.f
  refine Cm.up (fun k i (_ : Unit) => laws_rHas.l0 k L x i) L.length (fun i _ => 0 ≤ i ∧ x ∉ L.take i.toNat) _ ?_ 0 () (by omega) ⟨by omega, by simp⟩
  rintro i _ hi ⟨h0, ht⟩ ih
  by_cases h : i < L.length
  · by_cases e : rd L i = x
    · refine Cm.step (fun k => by simp only [laws_rHas.l0, if_pos h, if_pos h0, if_pos e]; try rfl) (Cm.now ?_)
      rw [decide_eq_true (e ▸ rd_mem L i h0 h)]
    · refine Cm.step (fun k => by simp (disch := omega) only [laws_rHas.l0, if_pos h, if_pos h0, if_neg e, w64 (i + 1)]; try rfl) (ih () h ⟨by omega, ?_⟩)
      rw [take_rd L i h0 h, List.mem_append, List.mem_singleton]
      rintro (h' | h')
      · exact ht h'
      · exact e h'.symm
  · refine Cm.step (fun k => by simp only [laws_rHas.l0, if_neg h]; try rfl) (Cm.now ?_)
    rw [take_all L i (by omega)] at ht
    rw [decide_eq_false ht]
theorem among_cm {C : List Int} (hC : Code8 C) (a s : Int) (l : List Int) (h0 : 0 ≤ a) (h1 : a ≤ 100000000) (hn : 1 ≤ l.length) (hN : l.length ≤ 1000) : Cm (fun _ => spec_l1Cur_among.f C a s l) (fun r => r.1 ∈ l ∧ a ≤ r.2.1 ∧ r.2.1 ≤ a + 2) := by
  unfold spec_l1Cur_among.f
  refine Cm.bind (pick_cm hC a s l.length h0 h1 (by omega) (by omega)) ?_
  rintro ⟨x, a1, s1⟩ ⟨x0, x1, x2, x3⟩
  dsimp only at x0 x1 x2 x3 ⊢
  exact Cm.pos x0 (Cm.pos x1 (Cm.now ⟨rd_mem l x x0 x1, x2, x3⟩))
theorem marred_cm {C : List Int} (hC : Code8 C) (a s n : Int) (l : List S71) (h0 : 0 ≤ a) (h1 : a ≤ 90000000) (hl : l.length ≤ 1000) : Cm (fun _ => spec_l1Cur_marred.f C a s n l) (fun r => r.2.1.length ≤ l.length + 1 ∧ a ≤ r.2.2.1 ∧ r.2.2.1 ≤ a + 6) := by
  unfold spec_l1Cur_marred.f
  refine Cm.bind (pick_cm hC a s 50 h0 (by omega) (by omega) (by omega)) ?_
  rintro ⟨x, a1, s1⟩ ⟨x0, x1, x2, x3⟩
  dsimp only at x0 x1 x2 x3 ⊢
  refine Cm.ite (fun _ => Cm.bind (among_cm hC a1 s1 _ (by omega) (by omega) (by decide) (by decide)) ?_) (fun _ => Cm.ite (fun _ => Cm.bind (pick_cm hC a1 s1 4 (by omega) (by omega) (by omega) (by omega)) ?_) (fun _ => Cm.ite (fun _ => Cm.ite (fun hp => Cm.bind (pick_cm hC a1 s1 l.length (by omega) (by omega) (by omega) (by omega)) ?_) (fun _ => Cm.now ⟨by dsimp only; omega, by dsimp only; omega, by dsimp only; omega⟩)) (fun _ => Cm.now ⟨by dsimp only; omega, by dsimp only; omega, by dsimp only; omega⟩)))
  · rintro ⟨y, a2, s2⟩ ⟨_, y1, y2⟩
    dsimp only at y1 y2 ⊢
    exact Cm.now ⟨by dsimp only; omega, by dsimp only; omega, by dsimp only; omega⟩
  · rintro ⟨y, a2, s2⟩ ⟨_, _, y1, y2⟩
    dsimp only at y1 y2 ⊢
    refine Cm.bind (pick_cm hC a2 s2 9 (by omega) (by omega) (by omega) (by omega)) ?_
    rintro ⟨z, a3, s3⟩ ⟨_, _, z1, z2⟩
    dsimp only at z1 z2 ⊢
    exact Cm.pos (by omega) (Cm.now ⟨by simp, by dsimp only; omega, by dsimp only; omega⟩)
  · rintro ⟨y, a2, s2⟩ ⟨w0, w1, y1, y2⟩
    dsimp only at w0 w1 y1 y2 ⊢
    exact Cm.pos w0 (Cm.pos w1 (Cm.pos (by omega) (Cm.now ⟨by simp, by dsimp only; omega, by dsimp only; omega⟩)))
/-- A pair more, wherever it is put. -/
theorem putDr_len (l : List S71) (x y : Int) (hl : l.length ≤ 10000) : Cm (fun k => spec_l2Put.f k l x y) (fun r => r.length = l.length + 1 ∧ ∀ e ∈ r, e = ⟨x, y⟩ ∨ e ∈ l) := by
  unfold spec_l2Put.f
  have fin : ∀ i : Int, 0 ≤ i → i ≤ l.length → (l.take i.toNat ++ [(⟨x, y⟩ : S71)] ++ l.drop i.toNat).length = l.length + 1 ∧ ∀ e ∈ l.take i.toNat ++ [(⟨x, y⟩ : S71)] ++ l.drop i.toNat, e = ⟨x, y⟩ ∨ e ∈ l := by
    intro i h0 h1
    refine ⟨by rw [List.length_append, List.length_append, List.length_take, List.length_drop, List.length_singleton]; omega, fun e he => ?_⟩
    rcases List.mem_append.1 he with he | he
    · rcases List.mem_append.1 he with he | he
      · exact .inr (List.mem_of_mem_take he)
      · exact .inl (List.mem_singleton.1 he)
    · exact .inr (List.mem_of_mem_drop he)
  refine Cm.up (fun k i (_ : Unit) => spec_l2Put.l0 k l i x y) l.length (fun i _ => 0 ≤ i) _ ?_ 0 () (by omega) (by omega)
  rintro i - hi h0 ih
  by_cases h : i < l.length
  · cases hb : decide ((rd_T71 l i).f0 < x ∨ ((rd_T71 l i).f0 = x ∧ (rd_T71 l i).f1 < y)) with
    | true =>
      exact Cm.step (fun k => by simp (disch := omega) only [spec_l2Put.l0, if_pos h, if_pos h0, before_eq, hb, Option.bind_some, if_true, w64 (i + 1)]; try rfl) (ih () h (by omega))
    | false =>
      exact Cm.step (fun k => by simp (disch := omega) only [spec_l2Put.l0, if_pos h, if_pos h0, before_eq, hb, Bool.false_eq_true, if_false, Option.bind_some, List.nil_append, List.length_nil, Nat.zero_add, List.length_append, List.length_take, List.length_drop, List.length_singleton, if_pos]; try rfl) (Cm.now (fin i h0 hi))
  · exact Cm.step (fun k => by simp (disch := omega) only [spec_l2Put.l0, Option.bind_some, if_neg h, if_pos h0, List.nil_append, List.length_nil, Nat.zero_add, List.length_append, List.length_take, List.length_drop, List.length_singleton, if_pos]; try rfl) (Cm.now (fin i h0 hi))
theorem pathDr_len (n : Int) (h0 : 0 ≤ n) (h8 : n ≤ 8) : Cm (fun k => spec_l2Path.f k n) (fun r => r.2.length ≤ 8) := by
  unfold spec_l2Path.f
  refine Cm.up (fun k i (z : List S71) => spec_l2Path.l0 k n i n z) (n + 1) (fun i z => 0 ≤ i ∧ (z.length : Int) ≤ i ∧ (z.length : Int) ≤ 8) _ ?_ 0 [] (by omega) ⟨by omega, by simp, by simp⟩
  rintro i z hi ⟨i0, hl, hl8⟩ ih
  have hw : wrap64 (i + 1) = i + 1 := w64 _ (by omega) (by omega)
  by_cases h : i + 1 < n
  · refine Cm.step (fun k => by simp only [spec_l2Path.l0, hw, if_pos h]; try rfl) (Cm.pos (by omega) (ih _ (by omega) ⟨by omega, ?_, ?_⟩)) <;> (rw [List.length_append, List.length_singleton]; omega)
  · exact Cm.step (fun k => by simp only [spec_l2Path.l0, hw, if_neg h]; try rfl) (Cm.now (by dsimp only; omega))
theorem cycle_len (n : Int) (h0 : 0 ≤ n) (h8 : n ≤ 8) : Cm (fun k => spec_l2Cycle.f k n) (fun r => r.2.length ≤ 9) := by
  unfold spec_l2Cycle.f
  refine Cm.bind (pathDr_len n h0 h8) ?_
  rintro ⟨m, l⟩ hl
  dsimp only at hl ⊢
  refine Cm.bind (putDr_len l _ _ (by omega)) ?_
  rintro r ⟨hr, _⟩
  exact Cm.now (by dsimp only; omega)
theorem complete_len (n : Int) (h0 : 0 ≤ n) (h8 : n ≤ 8) : Cm (fun k => spec_l2Complete.f k n) (fun r => r.2.length ≤ 64) := by
  unfold spec_l2Complete.f
  refine Cm.up (fun k i (z : List S71) => spec_l2Complete.l0 k n i n z) n (fun i z => 0 ≤ i ∧ (z.length : Int) ≤ 8 * i) _ ?_ 0 [] (by omega) ⟨by omega, by simp⟩
  rintro i z hi ⟨i0, hl⟩ ih
  have hw : wrap64 (i + 1) = i + 1 := w64 _ (by omega) (by omega)
  by_cases h : i < n
  · refine Cm.step (fun k => by simp only [spec_l2Complete.l0, hw, if_pos h]; try rfl) ?_
    refine Cm.up (fun k j (z : List S71) => spec_l2Complete.l1 k n i j n z) n (fun j z => i < j ∧ (z.length : Int) ≤ 8 * i + (j - i)) _ ?_ (i + 1) z (by omega) ⟨by omega, by omega⟩
    rintro j z hj ⟨j0, hlj⟩ ih2
    have hwj : wrap64 (j + 1) = j + 1 := w64 _ (by omega) (by omega)
    by_cases hc : j < n
    · refine Cm.step (fun k => by simp only [spec_l2Complete.l1, hwj, if_pos hc]; try rfl) (Cm.pos (by omega) (ih2 _ hc ⟨by omega, ?_⟩))
      rw [List.length_append, List.length_singleton]
      omega
    · exact Cm.step (fun k => by simp only [spec_l2Complete.l1, hw, if_neg hc]; try rfl) (ih z h ⟨by omega, by omega⟩)
  · exact Cm.step (fun k => by simp only [spec_l2Complete.l0, if_neg h]; try rfl) (Cm.now (by dsimp only; omega))
theorem least_cm (a b : Int) : spec_l1Least.f a b = some (min a b) := by
  unfold spec_l1Least.f
  by_cases h : a < b
  · rw [if_pos h, show min a b = a by omega]
  · rw [if_neg h, show min a b = b by omega]
theorem most_cm (a b : Int) : spec_l1Most.f a b = some (max a b) := by
  unfold spec_l1Most.f
  by_cases h : a > b
  · rw [if_pos h, show max a b = a by omega]
  · rw [if_neg h, show max a b = b by omega]
/-- A few pairs, and not far on in the code. -/
def Few (A : Int) (r : Int × List S71 × Int × Int) : Prop := r.2.1.length ≤ 200 ∧ A ≤ r.2.2.1 ∧ r.2.2.1 ≤ A + 400
theorem some_j1 {C : List Int} (hC : Code8 C) (A a s m x : Int) (m0 : 0 ≤ m) (m8 : m ≤ 8) (x0 : 0 ≤ x) (x8 : x ≤ 8) (hA : 0 ≤ A) (hA2 : A ≤ a) (h1 : a ≤ A + 10) (hB : A ≤ 80000000) : Cm (fun k => spec_l1Cur_someGraph.j1 k m x C a s) (Few A) := by
  refine Cm.step (fun k => by simp only [spec_l1Cur_someGraph.j1, least_cm, Option.bind_some]; try rfl) ?_
  obtain ⟨n, hn⟩ : ∃ n, n = min x m := ⟨_, rfl⟩
  rw [← hn]
  have n0 : 0 ≤ n := by omega
  have n8 : n ≤ 8 := by omega
  clear hn
  refine Cm.bind (pick_cm hC a s 8 (by omega) (by omega) (by omega) (by omega)) ?_
  rintro ⟨q, a1, s1⟩ ⟨_, _, q1, q2⟩
  dsimp only at q1 q2 ⊢
  have fin : ∀ (n' : Int) (l : List S71), l.length ≤ 100 → Cm (fun _ => (spec_l1Cur_marred.f C a1 s1 n' l).bind fun bt => some (bt.1, bt.2.1, bt.2.2.1, bt.2.2.2)) (Few A) := fun n' l hl => by
    refine Cm.bind (marred_cm hC a1 s1 n' l (by omega) (by omega) (by omega)) ?_
    rintro ⟨u, v, w, z⟩ ⟨v1, v2, v3⟩
    exact Cm.now ⟨by dsimp only at v1 ⊢; omega, by dsimp only at v2 ⊢; omega, by dsimp only at v3 ⊢; omega⟩
  refine Cm.ite (fun _ => Cm.bind (pathDr_len n n0 n8) ?_) (fun _ => Cm.ite (fun _ => Cm.ite (fun _ => Cm.bind (cycle_len n n0 n8) ?_) (fun _ => fin n [] (by simp))) (fun _ => Cm.ite (fun _ => Cm.bind (complete_len n n0 n8) ?_) (fun _ => Cm.bind (among_cm hC a1 s1 _ (by omega) (by omega) (by decide) (by decide)) ?_)))
  · rintro ⟨u, v⟩ hv
    dsimp only at hv ⊢
    exact fin u v (by omega)
  · rintro ⟨u, v⟩ hv
    dsimp only at hv ⊢
    exact fin u v (by omega)
  · rintro ⟨u, v⟩ hv
    dsimp only at hv ⊢
    exact fin u v (by omega)
  · rintro ⟨de, a2, s2⟩ ⟨hde, d1, d2⟩
    dsimp only at hde d1 d2 ⊢
    have de0 : 1 ≤ de ∧ de ≤ 6 := by
      simp only [List.mem_cons, List.not_mem_nil, or_false] at hde
      omega
    refine Cm.bind (one_cm hC a2 s2 6 (by omega) (by omega) (by omega) (by omega)) ?_
    rintro ⟨lo, a3, s3⟩ ⟨l1, l2⟩
    dsimp only at l1 l2 ⊢
    refine Cm.up (fun k i (z : List S71 × Int × Int) => spec_l1Cur_someGraph.l0 k n de lo i C z.2.1 z.2.2 n z.1) n (fun i z => 0 ≤ i ∧ (z.1.length : Int) ≤ 9 * i ∧ A ≤ z.2.1 ∧ z.2.1 ≤ A + 20 + 20 * i) _ ?_ 0 ([], a3, s3) (by omega) ⟨by omega, by simp, by dsimp only; omega, by dsimp only; omega⟩
    rintro i ⟨z, b, t⟩ hi ⟨i0, hl, hb0, hb1⟩ ih
    dsimp only at hl hb0 hb1 ⊢
    have hw : wrap64 (i + 1) = i + 1 := w64 _ (by omega) (by omega)
    by_cases h : i < n
    · refine Cm.step (fun k => by simp only [spec_l1Cur_someGraph.l0, hw, if_pos h]; try rfl) ?_
      refine Cm.up (fun k j (z : List S71 × Int × Int) => spec_l1Cur_someGraph.l1 k n de lo i j C z.2.1 z.2.2 n z.1) n (fun j z => i < j ∧ (z.1.length : Int) ≤ 9 * i + (j - i - 1) ∧ A ≤ z.2.1 ∧ z.2.1 ≤ A + 20 + 20 * i + 2 * (j - i - 1)) _ ?_ (i + 1) (z, b, t) (by omega) ⟨by omega, by dsimp only; omega, by dsimp only; omega, by dsimp only; omega⟩
      rintro j ⟨z, b, t⟩ hj ⟨j0, hlj, hbj0, hbj1⟩ ih2
      dsimp only at hlj hbj0 hbj1 ⊢
      have hwj : wrap64 (j + 1) = j + 1 := w64 _ (by omega) (by omega)
      by_cases hc : j < n
      · refine Cm.step (fun k => by simp only [spec_l1Cur_someGraph.l1, hwj, if_pos hc]; try rfl) (Cm.bind (pick_cm hC b t de (by omega) (by omega) (by omega) (by omega)) ?_)
        rintro ⟨p, b2, t2⟩ ⟨_, _, p1, p2⟩
        dsimp only at p1 p2 ⊢
        refine Cm.ite (fun _ => Cm.bind (putDr_len z _ _ (by omega)) ?_) (fun _ => ih2 (z, b2, t2) hc ⟨by omega, by dsimp only; omega, by dsimp only; omega, by dsimp only; omega⟩)
        rintro r ⟨hr, _⟩
        exact ih2 (r, b2, t2) hc ⟨by omega, by dsimp only; omega, by dsimp only; omega, by dsimp only; omega⟩
      · have go : ∀ (r : List S71) (b2 t2 : Int), r.length ≤ z.length + 1 → b ≤ b2 → b2 ≤ b + 2 → Cm (fun k => spec_l1Cur_someGraph.l0 k n de lo (i + 1) C b2 t2 n r) (Few A) := fun r b2 t2 h1 h2 h3 => ih (r, b2, t2) h ⟨by omega, by dsimp only; omega, by dsimp only; omega, by dsimp only; omega⟩
        refine Cm.step (fun k => by simp only [spec_l1Cur_someGraph.l1, hw, if_neg hc, most_cm, Option.bind_some]; try rfl) (Cm.bind (pick_cm hC b t (max i 1) (by omega) (by omega) (by omega) (by omega)) ?_)
        rintro ⟨p, b2, t2⟩ ⟨_, _, p1, p2⟩
        dsimp only at p1 p2 ⊢
        refine Cm.ite (fun _ => Cm.ite (fun _ => go z b2 t2 (by omega) p1 p2) (fun _ => Cm.bindE (near_ev n z i p (by omega)) (Cm.ite (fun _ => go z b2 t2 (by omega) p1 p2) (fun _ => Cm.bind (putDr_len z _ _ (by omega)) ?_)))) (fun _ => go z b2 t2 (by omega) p1 p2)
        rintro r ⟨hr, _⟩
        exact go r b2 t2 (by omega) p1 p2
    · refine Cm.step (fun k => by simp only [spec_l1Cur_someGraph.l0, if_neg h]; try rfl) (Cm.bind (marred_cm hC b t n z (by omega) (by omega) (by omega)) ?_)
      rintro ⟨u, v, w, y⟩ ⟨v1, v2, v3⟩
      exact Cm.now ⟨by dsimp only at v1 ⊢; omega, by dsimp only at v2 ⊢; omega, by dsimp only at v3 ⊢; omega⟩
theorem someDr_cm {C : List Int} (hC : Code8 C) (a s m : Int) (m0 : 0 ≤ m) (m8 : m ≤ 8) (h0 : 0 ≤ a) (h1 : a ≤ 80000000) : Cm (fun k => spec_l1Cur_someGraph.f k C a s m) (Few a) := by
  unfold spec_l1Cur_someGraph.f
  refine Cm.bind (among_cm hC a s _ h0 (by omega) (by decide) (by decide)) ?_
  rintro ⟨x, a1, s1⟩ ⟨hx, x1, x2⟩
  dsimp only at hx x1 x2 ⊢
  have hx8 : 0 ≤ x ∧ x ≤ 8 := by
    simp only [List.mem_cons, List.not_mem_nil, or_false] at hx
    omega
  have no : ∀ a2 s2, a ≤ a2 → a2 ≤ a + 4 → Cm (fun k => spec_l1Cur_someGraph.j0 k m x false C a2 s2) (Few a) := fun a2 s2 g0 g1 =>
    Cm.step (fun k => by simp only [spec_l1Cur_someGraph.j0, Bool.false_eq_true, if_false]; try rfl) (some_j1 hC a a2 s2 m x m0 m8 hx8.1 hx8.2 h0 g0 (by omega) h1)
  refine Cm.ite (fun _ => Cm.bind (one_cm hC a1 s1 4 (by omega) (by omega) (by omega) (by omega)) ?_) (fun _ => no a1 s1 x1 (by omega))
  rintro ⟨b, a2, s2⟩ ⟨b1, b2⟩
  dsimp only at b1 b2 ⊢
  cases b with
  | false => exact no a2 s2 (by omega) (by omega)
  | true =>
    refine Cm.step (fun k => by simp only [spec_l1Cur_someGraph.j0, if_true]; try rfl) (Cm.bind (pick_cm hC a2 s2 2 (by omega) (by omega) (by omega) (by omega)) ?_)
    rintro ⟨y, a3, s3⟩ ⟨y0, y1, y2, y3⟩
    dsimp only at y0 y1 y2 y3 ⊢
    rw [w64 (7 + y) (by omega) (by omega)]
    exact some_j1 hC a a3 s3 m (7 + y) m0 m8 (by omega) (by omega) h0 (by omega) (by omega) h1
theorem nodeDr_cm {C : List Int} (hC : Code8 C) (a s n : Int) (l : List S71) (h0 : 0 ≤ a) (h1 : a ≤ 80000000) : Cm (fun k => spec_l1Cur_node.f k C a s n l) (fun r => a ≤ r.2.1 ∧ r.2.1 ≤ a + 4) := by
  have yes : ∀ a1 s1, a ≤ a1 → a1 ≤ a + 2 → Cm (fun k => spec_l1Cur_node.j0 k true C a1 s1 n l) (fun r => a ≤ r.2.1 ∧ r.2.1 ≤ a + 4) := fun a1 s1 g0 g1 => by
    refine Cm.step (fun k => by simp only [spec_l1Cur_node.j0, if_true]; try rfl) (Cm.bind (among_cm hC a1 s1 _ (by omega) (by omega) (by decide) (by decide)) ?_)
    rintro ⟨y, a2, s2⟩ ⟨_, y1, y2⟩
    exact Cm.now ⟨by dsimp only at y1 ⊢; omega, by dsimp only at y2 ⊢; omega⟩
  unfold spec_l1Cur_node.f
  refine Cm.ite (fun _ => yes a s (by omega) (by omega)) (fun c1 => Cm.ite (fun _ => yes a s (by omega) (by omega)) (fun c2 => Cm.bind (one_cm hC a s 24 h0 (by omega) (by omega) (by omega)) ?_))
  rintro ⟨o, a1, s1⟩ ⟨o1, o2⟩
  dsimp only at o1 o2 ⊢
  cases o with
  | true => exact yes a1 s1 o1 o2
  | false =>
    refine Cm.step (fun k => by simp only [spec_l1Cur_node.j0, Bool.false_eq_true, if_false]; try rfl) (Cm.bind (pick_cm hC a1 s1 n (by omega) (by omega) (by omega) (by omega)) ?_)
    rintro ⟨y, a2, s2⟩ ⟨_, _, y1, y2⟩
    exact Cm.now ⟨by dsimp only at y1 ⊢; omega, by dsimp only at y2 ⊢; omega⟩
end Go.Proofs.Ytcjddikalgnhpaa.Gr
namespace Go.Proofs.Ytcjddikalgnhpaa.Pure
open Go.RowKit Go.Proofs.Ytcjddikalgnhpaa.P Go.Proofs.YtcjddikalgnhpaaW.PrintWords Go.Proofs.YtcjddikalgnhpaaW.PrintLast Go.Proofs.YtcjddikalgnhpaaW.PrintMore Go.Proofs.Ytcjddikalgnhpaa.Gr
theorem drawWay_cm {C : List Int} (hC : Code8 C) : Cm (fun k => spec_DrawFirstWay.f k C) (fun r => r.2.1.length ≤ 200) := by
  unfold spec_DrawFirstWay.f spec_DrawFirstWay.st
  refine Cm.bind (P := fun r => r.2.1.length ≤ 200) ?_ (fun r h => Cm.now h)
  unfold spec_l1Cur_bigGraph.f
  refine Cm.bind (P := Few 0) (Cm.bind (someDr_cm hC 0 0 8 (by omega) (by omega) (by omega) (by omega)) (fun r hr => Cm.now hr)) ?_
  rintro ⟨n, l, a, s⟩ ⟨hl, a0, a1⟩
  dsimp only at hl a0 a1 ⊢
  refine Cm.bind (nodeDr_cm hC a s n l (by omega) (by omega)) ?_
  rintro ⟨y, a4, s4⟩ ⟨y0, y1⟩
  dsimp only at y0 y1 ⊢
  refine Cm.bind (nodeDr_cm hC a4 s4 n l (by omega) (by omega)) ?_
  rintro ⟨z, a5, s5⟩ _
  exact Cm.now (by dsimp only; omega)
/-- What holds of the table for all nodes. -/
theorem tri_loop (s : Int) (l : List S71) (hG : Gr.Good s l) (t : List (List Int)) (hT : TabX s l t) (D : List Int) (a : Int) (ha : 0 ≤ a ∧ a < s) (near ball : List Int) (b : Int) (hb : 0 ≤ b ∧ b < s) (Q : Bool → Prop)
    (hQ : Cm (fun k => laws_FnDistances.l1 k t D a near ball (b + 1) s l) Q) : Cm (fun k => laws_FnDistances.l2 k t D a near ball b 0 s l) Q := by
  have h8 := hG.2.1
  have htl := hT.1
  have hrow : ∀ u : Int, 0 ≤ u → u < s → ((rd_L6 t u).length : Int) = s := fun u u0 u1 => (hT.2 u u0 u1).1
  have hra := hrow a ha.1 ha.2
  have hrb := hrow b hb.1 hb.2
  refine Cm.up (fun k i (_ : Unit) => laws_FnDistances.l2 k t D a near ball b i s l) s (fun i _ => 0 ≤ i) _ ?_ 0 () (by omega) (by omega)
  rintro i - hi i0 ih
  by_cases h : i < s
  · have hw : wrap64 (i + 1) = i + 1 := w64 _ (by omega) (by omega)
    refine Cm.step (fun k => by simp only [laws_FnDistances.l2, if_pos h, if_pos ha.1, if_pos hb.1, if_pos i0, htl, hra, hrb, if_pos ha.2, if_pos hb.2, hw]; try rfl) ?_
    refine Cm.ite (fun d1 => Cm.ite (fun d2 => ?_) (fun _ => ih () h (by omega))) (fun _ => ih () h (by omega))
    have h3 := dst_tri hG hT ha hb ⟨i0, h⟩ d1 d2
    have b1 := ((hT.2 a ha.1 ha.2).2 b hb.1 hb.2).1
    have b2 := ((hT.2 b hb.1 hb.2).2 i i0 h).1
    have e1 : rd (rd_L6 t a) i = rd (t.getD a.toNat []) i := rfl
    have e2 : rd (rd_L6 t a) b = rd (t.getD a.toNat []) b := rfl
    have e3 : rd (rd_L6 t b) i = rd (t.getD b.toNat []) i := rfl
    rw [e1, e2, e3, w64 _ (by omega) (by omega)]
    exact Cm.neg (by omega) (Cm.neg (by omega) (ih () h (by omega)))
  · refine Cm.step (fun k => by simp only [laws_FnDistances.l2, if_neg h]; try rfl) ?_
    rw [w64 (b + 1) (by omega) (by omega)]
    exact hQ
theorem even_loop (s : Int) (l : List S71) (hG : Gr.Good s l) (t : List (List Int)) (hT : TabX s l t) (D : List Int) (a : Int) (ha : 0 ≤ a ∧ a < s) (near ball : List Int) (hn : near.length ≤ 1024) (hb : ball.length ≤ 1024)
    (hN : ∀ b : Int, 0 ≤ b → b < s → (b ∈ near ↔ rd (t.getD a.toNat []) b = 1)) (hB : ∀ b : Int, 0 ≤ b → b < s → (b ∈ ball ↔ (0 ≤ rd (t.getD a.toNat []) b ∧ rd (t.getD a.toNat []) b ≤ 2))) (Q : Bool → Prop)
    (hQ : Cm (fun k => laws_FnDistances.l0 k t D (a + 1) s l) Q) : Cm (fun k => laws_FnDistances.l1 k t D a near ball 0 s l) Q := by
  have h8 := hG.2.1
  have htl := hT.1
  have hrow : ∀ u : Int, 0 ≤ u → u < s → ((rd_L6 t u).length : Int) = s := fun u u0 u1 => (hT.2 u u0 u1).1
  have hra := hrow a ha.1 ha.2
  refine Cm.up (fun k i (_ : Unit) => laws_FnDistances.l1 k t D a near ball i s l) s (fun i _ => 0 ≤ i) _ ?_ 0 () (by omega) (by omega)
  rintro i - hi i0 ih
  by_cases h : i < s
  · have hri := hrow i i0 h
    have e1 : rd (rd_L6 t a) i = rd (t.getD a.toNat []) i := rfl
    have e2 : rd (rd_L6 t i) a = rd (t.getD i.toNat []) a := rfl
    have hsym := dst_symm hG hT ha ⟨i0, h⟩
    refine Cm.step (fun k => by simp only [laws_FnDistances.l1, if_pos h, if_pos ha.1, if_pos i0, htl, hra, hri, if_pos ha.2, e1, e2, if_pos hsym]; try rfl) ?_
    refine Cm.bindE (rHas_ev near i (by omega)) (Cm.neg ?_ (Cm.bindE (rHas_ev ball i (by omega)) ?_))
    · rw [show decide (i ∈ near) = (rd (t.getD a.toNat []) i == 1) from by rw [Bool.eq_iff_iff, decide_eq_true_iff, beq_iff_eq]; exact hN i i0 h]
      simp
    · have go : Cm (fun k => laws_FnDistances.j10 k t D a near ball i false s l) Q :=
        Cm.step (fun k => by simp only [laws_FnDistances.j10, Bool.false_eq_true, if_false]; try rfl) (tri_loop s l hG t hT D a ha near ball i ⟨i0, h⟩ Q (ih () h (by omega)))
      have hb' := hB i i0 h
      refine Cm.ite (fun d => ?_) (fun d => ?_)
      · rw [show (decide (i ∈ ball) != decide (rd (t.getD a.toNat []) i ≤ 2)) = false from by
          rw [show decide (i ∈ ball) = decide (rd (t.getD a.toNat []) i ≤ 2) from by rw [decide_eq_decide]; exact ⟨fun h => (hb'.1 h).2, fun h => hb'.2 ⟨d, h⟩⟩]
          simp]
        exact go
      · rw [show (decide (i ∈ ball) != false) = false from by
          rw [decide_eq_false (fun h => d (hb'.1 h).1)]
          rfl]
        exact go
  · refine Cm.step (fun k => by simp only [laws_FnDistances.l1, if_neg h]; try rfl) ?_
    rw [w64 (a + 1) (by omega) (by omega)]
    exact hQ
open Classical in
theorem all_loop (s : Int) (l : List S71) (hl : l.length ≤ 1048576) (hG : Gr.Good s l) (hS : Ev (fun k => spec_l2Good.f k s l) true) (hI : Ev (fun k => impl_IsGraph.f k s l) true) (t : List (List Int)) (hT : TabX s l t) (D : List Int) (hD : (D.length : Int) = s) (hDv : ∀ a : Int, 0 ≤ a → a < s → rd D a = ((nbF (near l a) s.toNat 0).length : Int)) : Cm (fun k => laws_FnDistances.l0 k t D 0 s l) (fun z => z = true) := by
  have h8 := hG.2.1
  have h0 := hG.1
  refine Cm.up (fun k i (_ : Unit) => laws_FnDistances.l0 k t D i s l) s (fun i _ => 0 ≤ i) _ ?_ 0 () (by omega) (by omega)
  rintro a - hi a0 ih
  by_cases h : a < s
  · obtain ⟨N1, N2⟩ := nbs_ex s l a hl hG hS hI ⟨a0, h⟩
    obtain ⟨B1, B2⟩ := ball_ex s l a hl hG hS hI ⟨a0, h⟩
    have hn := nbF_len (near l a) s.toNat 0
    have hb : ((V s).filter (fun v => decide (Rch l a 2 v))).length ≤ s.toNat := VF_len
    refine Cm.step (fun k => by simp only [laws_FnDistances.l0, if_pos h]; try rfl) ?_
    refine Cm.bindE N2 (Cm.bindE B2 (Cm.bindE N1 (Cm.pos rfl (Cm.pos rfl (Cm.bindE (rInts_same (nbF (near l a) s.toNat 0) (by omega)) (Cm.pos rfl (Cm.pos a0 (Cm.pos (by omega) ?_))))))))
    rw [hDv a a0 h]
    refine Cm.step (fun k => by simp only [laws_FnDistances.j7, bne_self_eq_false, Bool.false_eq_true, if_false]; try rfl) ?_
    refine Cm.bindE B1 (Cm.pos trivial (Cm.pos rfl (Cm.bindE (rInts_same ((V s).filter (fun v => decide (Rch l a 2 v))) (by omega)) ?_)))
    refine Cm.step (fun k => by simp only [laws_FnDistances.j8, Bool.not_true, Bool.false_eq_true, if_false]; try rfl) ?_
    refine even_loop s l hG t hT D a ⟨a0, h⟩ _ _ (by omega) (by omega) (fun b b0 b1 => ?_) (fun b b0 b1 => ?_) _ (ih () h (by omega))
    · have d1 := dst_iff hG hT ⟨a0, h⟩ ⟨b0, b1⟩ 1
      have d0 := dst_iff hG hT ⟨a0, h⟩ ⟨b0, b1⟩ 0
      rw [mem_nbF]
      constructor
      · rintro ⟨_, hn⟩
        have h1 := d1.2 (.inr ⟨a, rfl, hn⟩)
        by_cases e : rd (t.getD a.toNat []) b = 0
        · have h2 := d0.1 ⟨by omega, by omega⟩
          exact ((near_in hG hn).2.2 (show b = a from h2).symm).elim
        · omega
      · intro e
        refine ⟨⟨b0, by omega⟩, ?_⟩
        rcases d1.1 ⟨by omega, by omega⟩ with h2 | ⟨w, h2, h3⟩
        · have := d0.2 h2
          omega
        · rw [show w = a from h2] at h3
          exact h3
    · have d2 := dst_iff hG hT ⟨a0, h⟩ ⟨b0, b1⟩ 2
      rw [mem_VF, decide_eq_true_iff]
      exact ⟨fun h => by have := d2.2 h.2; omega, fun h => ⟨⟨b0, b1⟩, d2.1 ⟨by omega, by omega⟩⟩⟩
  · exact Cm.step (fun k => by simp only [laws_FnDistances.l0, if_neg h]; try rfl) (Cm.now rfl)
theorem FnDistances : laws_FnDistances.Pure := by
  intro C _ hx
  refine Ev.rounds (Cm.ev ?_)
  unfold laws_FnDistances.f laws_rBig.f
  refine Cm.bindE (Ev.now _) (Cm.ite (fun _ => Cm.now rfl) (fun h => ?_))
  have hU : Code8 C := code_of (by rw [decide_eq_true_eq] at h; omega) hx
  have nb : ∀ q : Bool, ¬ (q != q) = true := fun q => by cases q <;> decide
  refine Cm.bind (drawWay_cm hU) ?_
  rintro ⟨s, l, x, y⟩ hl
  dsimp only at hl ⊢
  obtain ⟨b, hb, hS, hI⟩ := isGraph_full s l (by omega)
  obtain ⟨W, w, hW, E1, E2, w0, w1⟩ := way_ex s l x y (by omega) b hb hS hI
  obtain ⟨T, hTl, hTr, E3, E4, hT⟩ := table_ex s l (by omega) b hb hS hI
  obtain ⟨D, hDl, E5, E6, hD⟩ := deg_ex s l (by omega) b hb hS hI
  obtain ⟨P, hPl, hPr, E7, E8, hP⟩ := parts_ex s l (by omega) b hb hS hI
  obtain ⟨q, E9, E10, hq⟩ := whole_ex s l (by omega) b hb hS hI
  refine Cm.bindE E2 (Cm.bindE E1 (Cm.neg (nb w) (Cm.bindE (rInts_same W (by omega)) ?_)))
  refine Cm.step (fun k => by simp only [laws_FnDistances.j0, Bool.not_true, Bool.false_eq_true, if_false]; try rfl) ?_
  refine Cm.bindE E4 (Cm.bindE E3 (Cm.neg (nb b) (Cm.bindE hI (Cm.neg (nb b) (Cm.bindE (rTable_same T (by omega) (fun z hz => by have := hTr z hz; omega)) ?_)))))
  refine Cm.step (fun k => by simp only [laws_FnDistances.j1, Bool.not_true, Bool.false_eq_true, if_false]; try rfl) ?_
  refine Cm.bindE E6 (Cm.bindE E5 (Cm.neg (nb b) (Cm.neg (nb b) (Cm.bindE (rInts_same D (by omega)) ?_))))
  refine Cm.step (fun k => by simp only [laws_FnDistances.j2, Bool.not_true, Bool.false_eq_true, if_false]; try rfl) ?_
  refine Cm.bindE E8 (Cm.bindE E7 (Cm.neg (nb b) (Cm.neg (nb b) (Cm.bindE (rTable_same P (by omega) (fun z hz => by have := hPr z hz; omega)) ?_))))
  refine Cm.step (fun k => by simp only [laws_FnDistances.j3, Bool.not_true, Bool.false_eq_true, if_false]; try rfl) ?_
  refine Cm.bindE E10 (Cm.bindE E9 (Cm.neg (nb q) (Cm.neg (nb b) ?_)))
  dsimp only
  rw [show (b != b) = false from by cases b <;> rfl]
  refine Cm.step (fun k => by simp only [laws_FnDistances.j4, Bool.false_eq_true, if_false]; try rfl) ?_
  cases b with
  | false =>
    rw [w0 rfl]
    exact Cm.neg (by decide) (Cm.now rfl)
  | true =>
    obtain ⟨hG, _⟩ := hb rfl
    have hTT := hT rfl
    have hqe := hq rfl
    rw [← hP rfl] at hqe
    have h8 := hG.2.1
    have fin : Cm (fun k => laws_FnDistances.j5 k T D false s l) (fun z => z = true) :=
      Cm.step (fun k => by simp only [laws_FnDistances.j5, Bool.false_eq_true, if_false]; try rfl) (all_loop s l (by omega) hG hS hI T hTT D (hD rfl).1 (hD rfl).2)
    refine Cm.pos rfl (Cm.neg (by rw [hqe]; exact nb _) (Cm.ite (fun hw => ?_) (fun _ => fin)))
    obtain ⟨hxx, hyy, e1, e2, e3, e4⟩ := w1 rfl hw T hTT
    have htl := hTT.1
    have hrow : ((rd_L6 T x).length : Int) = s := (hTT.2 x hxx.1 hxx.2).1
    have er : rd (rd_L6 T x) y = rd (T.getD x.toNat []) y := rfl
    have hwl : wrap64 ((W.length : Int) - 1) = (W.length : Int) - 1 := w64 _ (by omega) (by omega)
    rw [hwl, e4]
    refine Cm.pos hxx.1 (Cm.pos (by omega) (Cm.pos hyy.1 (Cm.pos (by omega) (Cm.pos (by rw [er, w64 _ (by omega) (by omega)]; exact e1) (Cm.pos e2.1 (Cm.pos e3 (Cm.pos (by omega) (Cm.pos (by omega) ?_))))))))
    rw [bne_self_eq_false]
    exact fin
end Go.Proofs.Ytcjddikalgnhpaa.Pure
