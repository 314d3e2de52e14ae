/- The text of a graph, in the library's words, and by the reference; no conditions beyond those that each theorem names. -/
import Derived.Test.YtnddlcbhabcejaaDoorGrPi
import Derived.Test.YtnddlcbhabcejaaDoorGrSt
import Derived.Test.YtnddlcbhabcejaaDoorGrG
import Derived.Test.YtnddlcbhabcejaaDoorGrP1
import Derived.Lib.Join
import Derived.Test.YtnddlcbhabcejaaDoorPxImplA
import Derived.Test.YtnddlcbhabcejaaDoorPxSpecL2Good
import Derived.Test.YtnddlcbhabcejaaDoorPxSpecL2Text
namespace Go.Proofs.YtnddlcbhabcejaaDoor.Gr
open Go.RowKit Go.Proofs.YtnddlcbhabcejaaDoor.P Go.Proofs.YtnddlcbhabcejaaDoorW.PrintWords Go.Proofs.YtnddlcbhabcejaaDoorW.PrintLast Go.Proofs.YtnddlcbhabcejaaDoorW.PrintMore

/-- The word of an edge. -/
def wd (e : S85) : List UInt8 := Lib.itoa e.f0 ++ 45 :: Lib.itoa e.f1
/-- The text of a graph. -/
def txt (s : Int) (l : List S85) : List UInt8 := Lib.join (Lib.itoa s :: l.map wd) [32]
theorem txt_snoc (s : Int) (a : List S85) (e : S85) : txt s (a ++ [e]) = txt s a ++ 32 :: wd e := by
  unfold txt
  rw [Lib.join_cons, Lib.join_cons]
  unfold Lib.joinTail
  simp

/-- Is it a graph, by both? -/
def Gd (s : Int) (l : List S85) : Prop := (Ev (fun k => spec_l2Good.f k s l) true ∧ Ev (fun k => impl_IsGraph.f k s l) true) ∧ Gr.Good s l ∧ Sorted l
theorem gd_cases (s : Int) (l : List S85) (hl : l.length ≤ 1048576) : Gd s l ∨ (Ev (fun k => spec_l2Good.f k s l) false ∧ Ev (fun k => impl_IsGraph.f k s l) false) := by
  obtain ⟨b, hb, hS, hI⟩ := isGraph_full s l hl
  cases b with
  | false => exact .inr ⟨hS, hI⟩
  | true => exact .inl ⟨⟨hS, hI⟩, hb rfl⟩

theorem itoa_nat (n : Int) (h : 0 ≤ n) : Lib.itoa n = Lib.decDigits n.toNat := by unfold Lib.itoa; rw [if_neg (by omega)]
theorem itoa_byte (n : Int) (h : 0 ≤ n) (b : UInt8) (hb : b ∈ Lib.itoa n) : b ≠ 45 ∧ b ≠ 32 := by
  rw [itoa_nat n h] at hb
  obtain ⟨d, hd⟩ := dec_byte n.toNat b hb
  refine ⟨(digit_not hd).1, fun e => ?_⟩
  rw [e, show Lib.digitVal 32 = none by decide] at hd
  cases hd
theorem itoa_one (n : Int) (h : 0 ≤ n) (h9 : n ≤ 9) : (Lib.itoa n).length = 1 := by
  rw [itoa_nat n h, Lib.decDigits, dif_pos (by omega)]
  rfl
theorem itoa_ne (n : Int) : Lib.itoa n ≠ [] := by
  unfold Lib.itoa
  split
  · simp
  · intro h
    have := dec_pos n.toNat
    rw [h] at this
    simp at this
theorem num_at (n : Int) (h0 : -999999 ≤ n) (h1 : n ≤ 999999) {l : List UInt8} (e : l = Lib.itoa n) {z : Int × Bool} (h : Num l z) : z = (n, true) := h.one (.inl ⟨n, ⟨h0, h1⟩, e, rfl⟩)
theorem num_true {l : List UInt8} {v : Int} (h : Num l (v, true)) : (-999999 ≤ v ∧ v ≤ 999999) ∧ l = Lib.itoa v := by
  rcases h with ⟨w, hw, e, h2⟩ | ⟨_, h2⟩
  · injection h2 with h2 _
    rw [h2]
    exact ⟨hw, e⟩
  · injection h2 with _ h2
    cases h2

/-- A pair as a number. -/
def key (e : S85) : Int := 8 * e.f0 + e.f1
/-- The numbers of all pairs of nodes. -/
def all28 : List Int := (V 8).flatMap fun a => ((V 8).filter fun b => decide (a < b)).map fun b => 8 * a + b
theorem all28_len : all28.length = 28 := by rfl
theorem key_lt {s : Int} {l : List S85} (hG : Gr.Good s l) (hS : Sorted l) : ∀ (d : Nat) (i : Int), 0 ≤ i → i + 1 + d < l.length → key (rd_T85 l i) < key (rd_T85 l (i + 1 + d))
  | 0, i, h0, h => by
    have h8 := hG.2.1
    have h1 := hS (i + 1) (by omega) (by omega)
    rw [show i + 1 - 1 = i by omega] at h1
    have g1 := hG.2.2 i h0 (by omega)
    have g2 := hG.2.2 (i + 1) (by omega) (by omega)
    rw [show i + 1 + ((0 : Nat) : Int) = i + 1 by omega]
    unfold key
    omega
  | d + 1, i, h0, h => by
    have h1 := key_lt hG hS d i h0 (by omega)
    have h2 := key_lt hG hS 0 (i + 1 + d) (by omega) (by omega)
    rw [show i + 1 + (d : Int) + 1 + ((0 : Nat) : Int) = i + 1 + ((d + 1 : Nat) : Int) by omega] at h2
    omega
theorem good28 {s : Int} {l : List S85} (hG : Gr.Good s l) (hS : Sorted l) : l.length ≤ 28 := by
  have h8 := hG.2.1
  rw [← all28_len, ← List.length_map (f := key)]
  have at_ : ∀ (i : Nat) (h : i < l.length), l[i] = rd_T85 l (i : Int) := fun i h => by
    show _ = l.getD i z85
    rw [List.getD_eq_getElem?_getD, List.getElem?_eq_getElem h]
    rfl
  refine nodup_le (List.Pairwise.imp (R := (· < ·)) (fun h => by omega) ?_) (fun x hx => ?_)
  · rw [List.pairwise_iff_getElem]
    intro i j hi hj hij
    rw [List.length_map] at hi hj
    rw [List.getElem_map, List.getElem_map, at_ i hi, at_ j hj]
    have := key_lt hG hS (j - i - 1) (i : Int) (by omega) (by omega)
    rw [show (i : Int) + 1 + ((j - i - 1 : Nat) : Int) = (j : Int) by omega] at this
    exact this
  · obtain ⟨e, he, rfl⟩ := List.mem_map.1 hx
    obtain ⟨i, i0, i1, ei⟩ := mem_rdT he
    have := hG.2.2 i i0 i1
    rw [ei] at this
    unfold all28
    rw [List.mem_flatMap]
    exact ⟨e.f0, mem_V.2 ⟨by omega, by omega⟩, List.mem_map.2 ⟨e.f1, mem_VF.2 ⟨⟨by omega, by omega⟩, by rw [decide_eq_true_eq]; omega⟩, rfl⟩⟩

theorem text_ev (s : Int) (l : List S85) (hg : Gd s l) : Cm (fun k => spec_l2Text.f k s l) (fun r => r.data.toList = txt s l) := by
  have hG := hg.2.1
  have h0 := hG.1
  have h8 := hG.2.1
  have hl := good28 hG hg.2.2
  unfold spec_l2Text.f
  refine Cm.bindE (num_ev s (by omega) (by omega)) ?_
  refine Cm.up (fun k i (x : ByteArray) => spec_l2Text.l0 k x i s l) l.length (fun i x => 0 ≤ i ∧ x.data.toList = txt s (l.take i.toNat) ∧ (x.size : Int) = 1 + 4 * i) _ ?_ 0 _ (by omega) ⟨by omega, ?_, ?_⟩
  · rintro i x hi ⟨i0, hx, hs⟩ ih
    by_cases h : i < (l.length : Int)
    · have he := hG.2.2 i i0 h
      have e0 := itoa_one (rd_T85 l i).f0 (by omega) (by omega)
      have e1 := itoa_one (rd_T85 l i).f1 (by omega) (by omega)
      have t0 : (tx (rd_T85 l i).f0).size = 1 := by rw [ba_size, tx_data, e0]
      have t1 : (tx (rd_T85 l i).f1).size = 1 := by rw [ba_size, tx_data, e1]
      have ap : ∀ a b : ByteArray, (a ++ b).size = a.size + b.size := fun a b => by rw [ba_size, ba_append, List.length_append, ← ba_size, ← ba_size]
      have h32 : (⟨#[32]⟩ : ByteArray).size = 1 := rfl
      have h45 : (⟨#[45]⟩ : ByteArray).size = 1 := rfl
      refine Cm.step (fun k => by simp only [spec_l2Text.l0, if_pos h, if_pos i0]; try rfl) ?_
      refine Cm.pos (by omega) (Cm.bindE (num_ev _ (by omega) (by omega)) (Cm.pos (by rw [ap]; omega) (Cm.pos (by rw [ap, ap]; omega) (Cm.bindE (num_ev _ (by omega) (by omega)) (Cm.pos (by rw [ap, ap, ap]; omega) ?_)))))
      rw [w64 (i + 1) (by omega) (by omega)]
      refine ih _ h ⟨by omega, ?_, by rw [ap, ap, ap, ap]; omega⟩
      rw [takeT l i i0 h, txt_snoc, ← hx, ba_append, ba_append, ba_append, ba_append, tx_data, tx_data]
      unfold wd
      simp
    · refine Cm.step (fun k => by simp only [spec_l2Text.l0, if_neg h]; try rfl) (Cm.now ?_)
      rw [hx, takeT_all l i (by omega)]
  · rw [tx_data]
    unfold txt
    rw [show (0 : Int).toNat = 0 from rfl, List.take_zero, List.map_nil, Lib.join_one]
  · rw [ba_size, tx_data, itoa_one s (by omega) (by omega)]
    rfl

theorem spl_join (c : UInt8) : ∀ (l cur : List UInt8), Lib.join (spl c cur l) [c] = cur ++ l
  | [], cur => by unfold spl; rw [Lib.join_one, List.append_nil]
  | b :: l, cur => by
    unfold spl
    by_cases h : b = c
    · rw [if_pos h, Lib.join_cons, h]
      have ih := spl_join c l []
      cases hs : spl c [] l with
      | nil => rw [hs] at ih; cases l with
        | nil => cases hs
        | cons b' l' => cases ih
      | cons x r =>
        rw [hs, Lib.join_cons, List.nil_append] at ih
        unfold Lib.joinTail at ih ⊢
        rw [List.map_cons, List.flatten_cons, ← ih]
        simp
    · rw [if_neg h, spl_join c l (cur ++ [b]), List.append_assoc]
      rfl
theorem spl_words (c : UInt8) (x : List UInt8) (r : List (List UInt8)) (hx : c ∉ x) (hr : ∀ y ∈ r, c ∉ y) : spl c [] (Lib.join (x :: r) [c]) = x :: r := by
  rw [Lib.join_cons]
  induction r generalizing x with
  | nil => rw [show Lib.joinTail [c] [] = [] from rfl, List.append_nil, spl_none _ _ hx]; rfl
  | cons y r ih =>
    rw [show Lib.joinTail [c] (y :: r) = c :: (y ++ Lib.joinTail [c] r) from by unfold Lib.joinTail; simp, spl_app _ _ _ hx, List.nil_append, ih y (hr y List.mem_cons_self) (fun z hz => hr z (List.mem_cons_of_mem _ hz))]
theorem spl_len (c : UInt8) : ∀ (l cur : List UInt8), ∀ w ∈ spl c cur l, w.length ≤ cur.length + l.length
  | [], cur, w, hw => by
    unfold spl at hw
    rw [List.mem_singleton.1 hw]
    exact Nat.le_refl _
  | b :: l, cur, w, hw => by
    unfold spl at hw
    by_cases h : b = c
    · rw [if_pos h] at hw
      rcases List.mem_cons.1 hw with e | e
      · rw [e]; exact Nat.le_add_right _ _
      · have := spl_len c l [] w e
        simp only [List.length_nil, List.length_cons] at this ⊢
        omega
    · rw [if_neg h] at hw
      have := spl_len c l _ w hw
      simp only [List.length_append, List.length_cons, List.length_nil] at this ⊢
      omega
theorem txt_words {s : Int} {l : List S85} (hg : Gd s l) : spl 32 [] (txt s l) = Lib.itoa s :: l.map wd := by
  refine spl_words 32 _ _ (fun h => (itoa_byte s hg.2.1.1 32 h).2 rfl) (fun y hy h => ?_)
  obtain ⟨e, he, rfl⟩ := List.mem_map.1 hy
  obtain ⟨i, i0, i1, ei⟩ := mem_rdT he
  have := hg.2.1.2.2 i i0 i1
  rw [ei] at this
  unfold wd at h
  rcases List.mem_append.1 h with h | h
  · exact (itoa_byte _ (by omega) 32 h).2 rfl
  · rcases List.mem_cons.1 h with h | h
    · exact absurd h (by decide)
    · exact (itoa_byte _ (by omega) 32 h).2 rfl

end Go.Proofs.YtnddlcbhabcejaaDoor.Gr
