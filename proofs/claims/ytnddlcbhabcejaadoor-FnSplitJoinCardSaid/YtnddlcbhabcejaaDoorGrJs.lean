/- Lists of texts that are counted, copied and joined, by both; no conditions beyond those that each theorem names. -/
import Derived.Test.YtnddlcbhabcejaaDoorGrSb
import Derived.Lib.Join
import Derived.Test.YtnddlcbhabcejaaDoorPx0
import Derived.Test.YtnddlcbhabcejaaDoorPxImplJoinStrings
import Derived.Test.YtnddlcbhabcejaaDoorPxSpecJoinStrings
import Derived.Test.YtnddlcbhabcejaaDoorPxStringsJoin
namespace Go.Proofs.YtnddlcbhabcejaaDoor.Gr
open Go.RowKit Go.Proofs.YtnddlcbhabcejaaDoor.P Go.Proofs.YtnddlcbhabcejaaDoorW.PrintWords Go.Proofs.YtnddlcbhabcejaaDoorW.PrintLast Go.Proofs.YtnddlcbhabcejaaDoorW.PrintMore

/-- The bytes of a list of texts, counted. -/
def tot (l : List ByteArray) : Nat := (l.map (·.data.toList.length)).sum
theorem tot_append (a b : List ByteArray) : tot (a ++ b) = tot a + tot b := by unfold tot; rw [List.map_append, List.sum_append]
theorem tot_one (x : ByteArray) : tot [x] = x.size := by unfold tot; rw [ba_size]; simp
theorem tot_take (l : List ByteArray) (n : Nat) : tot (l.take n) ≤ tot l := by
  conv => rhs; rw [← List.take_append_drop n l, tot_append]
  omega

theorem join_snoc (c : UInt8) (a : List (List UInt8)) (y : List UInt8) : Lib.join (a ++ [y]) [c] = if a = [] then y else Lib.join a [c] ++ [c] ++ y := by
  cases a with
  | nil => rw [if_pos rfl, List.nil_append, Lib.join_one]
  | cons x r =>
    rw [if_neg (by simp), List.cons_append, Lib.join_cons, Lib.join_cons]
    unfold Lib.joinTail
    simp
/-- The texts, joined. -/
def jn (c : UInt8) (l : List ByteArray) : ByteArray := ⟨(Lib.join (l.map (·.data.toList)) [c]).toArray⟩
theorem jn_data (c : UInt8) (l : List ByteArray) : (jn c l).data.toList = Lib.join (l.map (·.data.toList)) [c] := by unfold jn; rw [List.toList_toArray]
theorem jn_snoc (c : UInt8) (a : List ByteArray) (y : ByteArray) : jn c (a ++ [y]) = if a = [] then y else jn c a ++ ⟨#[c]⟩ ++ y := by
  refine ba_ext ?_
  rw [jn_data, List.map_append, List.map_singleton, join_snoc]
  by_cases h : a = []
  · rw [if_pos h, if_pos (by rw [h]; rfl)]
  · rw [if_neg h, if_neg (by simpa using h), ba_append, ba_append, jn_data]
theorem tot_cons (x : ByteArray) (r : List ByteArray) : tot (x :: r) = x.size + tot r := by
  rw [← List.singleton_append, tot_append, tot_one]
theorem jt_len (c : UInt8) : ∀ r : List ByteArray, (Lib.joinTail [c] (r.map (·.data.toList))).length = tot r + r.length
  | [] => rfl
  | y :: r => by
    have ih := jt_len c r
    rw [tot_cons, List.length_cons, ba_size]
    unfold Lib.joinTail at ih ⊢
    rw [List.map_cons, List.map_cons, List.flatten_cons, List.length_append, ih, List.length_append, List.length_singleton]
    omega
theorem jn_size (c : UInt8) (a : List ByteArray) (h : a ≠ []) : (jn c a).size + 1 = tot a + a.length := by
  cases a with
  | nil => exact (h rfl).elim
  | cons x r =>
    rw [ba_size, jn_data, List.map_cons, Lib.join_cons, List.length_append, jt_len, tot_cons, List.length_cons, ba_size]
    omega

/-- Can the texts be joined? -/
def can (c : UInt8) (l : List ByteArray) : Prop := (∀ x ∈ l, c ∉ x.data.toList) ∧ tot l + l.length ≤ 4001

theorem join_spec (c : UInt8) (l : List ByteArray) (hl : l.length + tot l ≤ 1048576) (h0 : l ≠ []) : Cm (fun k => spec_JoinStrings.l0 k l ⟨#[c]⟩ ⟨#[]⟩ 0) (fun z => can c l ∧ z = (jn c l, true) ∨ ¬ can c l ∧ z = (⟨#[]⟩, false)) := by
  refine Cm.up (fun k i (x : ByteArray) => spec_JoinStrings.l0 k l ⟨#[c]⟩ x i) l.length (fun i x => 0 ≤ i ∧ x = jn c (l.take i.toNat) ∧ (∀ y ∈ l.take i.toNat, c ∉ y.data.toList) ∧ x.size ≤ 4000) _ ?_ 0 _ (by omega) ⟨by omega, rfl, by simp, by decide⟩
  rintro i x hi ⟨i0, hx, hn, hs⟩ ih
  by_cases h : i < (l.length : Int)
  · obtain ⟨y, _, ey, et, hm⟩ := atO l i i0 h
    have hy : y.size ≤ 1048576 := by
      have h1 := tot_take l (i + 1).toNat
      rw [et, tot_append, tot_one] at h1
      omega
    have hb : bt ⟨#[c]⟩ 0 = (c.toNat : Int) := rfl
    have hno : ∀ n : Nat, c ∉ y.data.toList → ∀ z ∈ l.take (i + 1).toNat, c ∉ z.data.toList := fun _ h2 z hz => by
      rw [et] at hz
      rcases List.mem_append.1 hz with h3 | h3
      · exact hn z h3
      · rw [List.mem_singleton.1 h3]; exact h2
    have hbig : ∀ o : ByteArray, o = jn c (l.take (i + 1).toNat) → (o.size : Int) > 4000 → ¬ can c l := fun o ho hgt hc => by
      have h1 := jn_size c (l.take (i + 1).toNat) (by rw [et]; simp)
      have h2 := tot_take l (i + 1).toNat
      have h3 := hc.2
      rw [← ho, List.length_take] at h1
      omega
    refine Cm.step (fun k => by simp only [spec_JoinStrings.l0, if_pos h, if_pos i0, ey, hb]; try rfl) (Cm.pos (by have : (⟨#[c]⟩ : ByteArray).size = 1 := rfl; omega) (Cm.bindE (stands_ev y c hy) ?_))
    by_cases hc : c ∈ y.data.toList
    · rw [decide_eq_true hc]
      exact Cm.pos rfl (Cm.now (.inr ⟨fun h2 => h2.1 y hm hc, rfl⟩))
    · rw [decide_eq_false hc]
      refine Cm.neg (by decide) ?_
      rw [w64 (i + 1) (by omega) (by omega)]
      refine Cm.ite (fun hp => ?_) (fun hp => ?_)
      · have ho : x ++ ⟨#[c]⟩ ++ y = jn c (l.take (i + 1).toNat) := by
          rw [et, jn_snoc, if_neg (fun h2 => ?_), hx]
          have h3 := congrArg List.length h2
          rw [List.length_take, List.length_nil] at h3
          omega
        have h1 : (x ++ (⟨#[c]⟩ : ByteArray)).size = x.size + 1 := by
          rw [ba_size, ba_append, List.length_append, ← ba_size]
          rfl
        refine Cm.pos (by rw [show (⟨#[c]⟩ : ByteArray).size = 1 from rfl]; omega) (Cm.pos (by rw [h1]; omega) ?_)
        refine Cm.ite (fun hgt => Cm.now (.inr ⟨hbig _ ho hgt, rfl⟩)) (fun hgt => ih _ h ⟨by omega, ho, hno 0 hc, by omega⟩)
      · have ho : x ++ y = jn c (l.take (i + 1).toNat) := by
          rw [et, jn_snoc, show i = 0 by omega]
          rw [show (0 : Int).toNat = 0 from rfl, List.take_zero, if_pos rfl, hx, show i = 0 by omega]
          rw [show (0 : Int).toNat = 0 from rfl, List.take_zero]
          exact ba_ext (by rw [ba_append]; rfl)
        refine Cm.pos (by omega) ?_
        refine Cm.ite (fun hgt => Cm.now (.inr ⟨hbig _ ho hgt, rfl⟩)) (fun hgt => ih _ h ⟨by omega, ho, hno 0 hc, by omega⟩)
  · rw [List.take_of_length_le (by omega)] at hx hn
    refine Cm.step (fun k => by simp only [spec_JoinStrings.l0, if_neg h]; try rfl) (Cm.now (.inl ⟨⟨hn, ?_⟩, by rw [hx]⟩))
    have := jn_size c l h0
    rw [← hx] at this
    omega

theorem join_impl (c : UInt8) (l : List ByteArray) (hl : l.length + tot l ≤ 1048576) (h0 : l ≠ []) : Cm (fun k => impl_JoinStrings.l0 k l ⟨#[c]⟩ ((l.length : Int) - 1) l l.length 0) (fun z => can c l ∧ z = (jn c l, true) ∨ ¬ can c l ∧ z = (⟨#[]⟩, false)) := by
  have hpos : 0 < l.length := List.length_pos_iff.2 h0
  refine Cm.up (fun k i (x : Int) => impl_JoinStrings.l0 k l ⟨#[c]⟩ x l l.length i) l.length (fun i x => 0 ≤ i ∧ x = (l.length : Int) - 1 + (tot (l.take i.toNat) : Int) ∧ (∀ y ∈ l.take i.toNat, c ∉ y.data.toList) ∧ (i > 0 → x ≤ 4000)) _ ?_ 0 _ (by omega) ⟨by omega, by rw [show (0 : Int).toNat = 0 from rfl, List.take_zero]; simp [tot], by simp, by omega⟩
  rintro i x hi ⟨i0, hx, hn, hs⟩ ih
  by_cases h : i < (l.length : Int)
  · obtain ⟨y, _, ey, et, hm⟩ := atO l i i0 h
    have h1 := tot_take l (i + 1).toNat
    rw [et, tot_append, tot_one] at h1
    refine Cm.step (fun k => by simp only [impl_JoinStrings.l0, if_pos h, if_pos i0, ey, contains_ev, Option.bind_some]; try rfl) ?_
    by_cases hc : c ∈ y.data.toList
    · exact Cm.pos (decide_eq_true hc) (Cm.now (.inr ⟨fun h2 => h2.1 y hm hc, rfl⟩))
    · refine Cm.neg (by rw [decide_eq_false hc]; decide) ?_
      rw [w64 (x + (y.size : Int)) (by omega) (by omega), w64 (i + 1) (by omega) (by omega)]
      refine Cm.ite (fun hgt => Cm.now (.inr ⟨fun h2 => ?_, rfl⟩)) (fun hgt => ih _ h ⟨by omega, ?_, fun z hz => ?_, fun _ => by omega⟩)
      · have := h2.2
        omega
      · rw [et, tot_append, tot_one]
        omega
      · rw [et] at hz
        rcases List.mem_append.1 hz with h3 | h3
        · exact hn z h3
        · rw [List.mem_singleton.1 h3]; exact hc
  · rw [List.take_of_length_le (by omega)] at hx hn
    have h2 := hs (by omega)
    have hsz := jn_size c l h0
    refine Cm.step (fun k => by simp only [impl_JoinStrings.l0, if_neg h]; try rfl) ?_
    unfold strings_Join.f
    have hlen : (Lib.join (l.map (·.data.toList)) (⟨#[c]⟩ : ByteArray).data.toList).length ≤ 140737488355328 := by
      show (Lib.join (l.map (·.data.toList)) [c]).length ≤ _
      rw [← jn_data, ← ba_size]
      omega
    rw [if_pos ⟨by omega, hlen⟩]
    exact Cm.bindE (Ev.now _) (Cm.now (.inl ⟨⟨hn, by omega⟩, rfl⟩))

/-- Both join alike. -/
theorem join_both (l : List ByteArray) (p : ByteArray) (hl : l.length + tot l ≤ 1048576) : ∃ z, Ev (fun k => spec_JoinStrings.f k l p) z ∧ Ev (fun k => impl_JoinStrings.f k l p) z := by
  have sno : Cm (fun k => spec_JoinStrings.j0 k l p true) (fun z => z = (⟨#[]⟩, false)) := Cm.step (fun k => by simp only [spec_JoinStrings.j0, if_true]; try rfl) (Cm.now rfl)
  have ino : Cm (fun k => impl_JoinStrings.j0 k l p true) (fun z => z = (⟨#[]⟩, false)) := Cm.step (fun k => by simp only [impl_JoinStrings.j0, if_true]; try rfl) (Cm.now rfl)
  by_cases hp : (p.size : Int) = 1
  · by_cases h0 : l = []
    · refine ⟨(⟨#[]⟩, false), Cm.ev ?_, Cm.ev ?_⟩
      · unfold spec_JoinStrings.f
        refine Cm.pos hp ?_
        rw [show ((l.length : Int) == 0) = true by rw [h0]; rfl]
        exact sno
      · unfold impl_JoinStrings.f
        exact Cm.pos (by rw [h0]; rfl) ino
    · have hpos : 0 < l.length := List.length_pos_iff.2 h0
      obtain ⟨c, rfl, _⟩ := one_of (a := p) (by omega)
      obtain ⟨z1, e1, k1⟩ := join_spec c l hl h0
      obtain ⟨z2, e2, k2⟩ := join_impl c l hl h0
      have hz : z2 = z1 := by
        rcases k1 with ⟨a1, b1⟩ | ⟨a1, b1⟩ <;> rcases k2 with ⟨a2, b2⟩ | ⟨a2, b2⟩
        · rw [b1, b2]
        · exact (a2 a1).elim
        · exact (a1 a2).elim
        · rw [b1, b2]
      refine ⟨z1, Cm.ev ?_, Cm.ev ?_⟩
      · unfold spec_JoinStrings.f
        refine Cm.pos hp ?_
        rw [show ((l.length : Int) == 0) = false by rw [beq_eq_false_iff_ne]; omega]
        exact Cm.step (fun k => by simp only [spec_JoinStrings.j0, Bool.false_eq_true, if_false]; try rfl) (Ev.cm e1)
      · unfold impl_JoinStrings.f
        refine Cm.neg (by omega) ?_
        rw [show (((⟨#[c]⟩ : ByteArray).size : Int) != 1) = false from rfl]
        refine Cm.step (fun k => by simp only [impl_JoinStrings.j0, Bool.false_eq_true, if_false]; try rfl) ?_
        rw [w64 _ (by omega) (by omega), ← hz]
        exact Ev.cm e2
  · refine ⟨(⟨#[]⟩, false), Cm.ev ?_, Cm.ev ?_⟩
    · unfold spec_JoinStrings.f
      exact Cm.neg hp sno
    · unfold impl_JoinStrings.f
      refine Cm.ite (fun _ => ino) (fun _ => ?_)
      rw [show ((p.size : Int) != 1) = true by rw [bne_iff_ne]; exact hp]
      exact ino

end Go.Proofs.YtnddlcbhabcejaaDoor.Gr
