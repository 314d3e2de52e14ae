/- A graph out of a text, by both; no conditions beyond those that each theorem names. -/
import Derived.Test.YtnddlcbhabcejaaDoorGrTx
import Derived.Test.YtnddlcbhabcejaaDoorPxImplParseGraph
import Derived.Test.YtnddlcbhabcejaaDoorPxImplReadInts
import Derived.Test.YtnddlcbhabcejaaDoorPxSpecL2ReadEdge
import Derived.Test.YtnddlcbhabcejaaDoorPxSpecParseGraph
import Derived.Test.YtnddlcbhabcejaaDoorPxStringsCut
import Derived.Test.YtnddlcbhabcejaaDoorPxStringsSplit
namespace Go.Proofs.YtnddlcbhabcejaaDoor.Gr
open Go.RowKit Go.Proofs.YtnddlcbhabcejaaDoor.P Go.Proofs.YtnddlcbhabcejaaDoorW.PrintWords Go.Proofs.YtnddlcbhabcejaaDoorW.PrintLast Go.Proofs.YtnddlcbhabcejaaDoorW.PrintMore

/-- What comes of two texts that are read as numbers. -/
def Two (f g : List UInt8) (z : List Int × Bool) : Prop := (∃ a b : Int, Num f (a, true) ∧ Num g (b, true) ∧ z = ([a, b], true)) ∨ ((¬ ∃ a b : Int, Num f (a, true) ∧ Num g (b, true)) ∧ z = ([], false))
theorem ints_two (f g : ByteArray) (hf : f.size ≤ 1048576) (hg : g.size ≤ 1048576) : Cm (fun k => impl_readInts.f k [f, g]) (Two f.data.toList g.data.toList) := by
  obtain ⟨⟨a, ba⟩, e1, n1⟩ := int_impl f hf
  obtain ⟨⟨b, bb⟩, e2, n2⟩ := int_impl g hg
  unfold impl_readInts.f
  refine Cm.pos (by simp) (Cm.pos (by simp) ?_)
  refine Cm.step (fun k => by simp only [impl_readInts.l0, show rdOf ByteArray.empty [f, g] 0 = f from rfl, e1, Option.bind_some]; try rfl) (Cm.pos (by simp) (Cm.pos (by decide) (Cm.pos (by simp) ?_)))
  cases ba with
  | false => exact Cm.neg (by decide) (Cm.now (.inr ⟨fun ⟨a', _, h, _⟩ => by have := n1.one h; simp at this, rfl⟩))
  | true =>
    refine Cm.pos rfl (Cm.pos (by simp) ?_)
    rw [w64 (0 + 1) (by omega) (by omega)]
    refine Cm.step (fun k => by simp only [impl_readInts.l0, show rdOf ByteArray.empty [f, g] (0 + 1) = g from rfl, e2, Option.bind_some]; try rfl) (Cm.pos (by simp) (Cm.pos (by decide) (Cm.pos (by simp) ?_)))
    cases bb with
    | false => exact Cm.neg (by decide) (Cm.now (.inr ⟨fun ⟨_, b', _, h⟩ => by have := n2.one h; simp at this, rfl⟩))
    | true =>
      refine Cm.pos rfl (Cm.pos (by simp) ?_)
      rw [w64 (0 + 1 + 1) (by omega) (by omega)]
      exact Cm.step (fun k => by simp only [impl_readInts.l0]; try rfl) (Cm.neg (by simp) (Cm.now (.inl ⟨a, b, n1, n2, rfl⟩)))

theorem wd_cut (e : S85) (h : 0 ≤ e.f0) : Lib.cut (wd e) [45] = (Lib.itoa e.f0, Lib.itoa e.f1, true) := cutS (fun hm => (itoa_byte e.f0 h 45 hm).1 rfl)
/-- A word that is cut and read is the word of the edge. -/
theorem wd_of {w : List UInt8} {a b : Int} (ha : Num (Lib.cut w [45]).1 (a, true)) (hb : Num (Lib.cut w [45]).2.1 (b, true)) : w = wd ⟨a, b⟩ := by
  obtain ⟨_, ea⟩ := num_true ha
  obtain ⟨_, eb⟩ := num_true hb
  rcases cutC 45 w with h | ⟨p, q, h, hp⟩
  · rw [cutN h] at eb
    exact (itoa_ne b eb.symm).elim
  · rw [h, cutS hp] at ea eb
    dsimp only at ea eb
    rw [h, ea, eb]
    rfl

theorem edge_in {s : Int} {l : List S85} (hg : Gd s l) (i : Int) (h0 : 0 ≤ i) (h1 : i < l.length) : 0 ≤ (rd_T85 l i).f0 ∧ (rd_T85 l i).f0 ≤ 8 ∧ 0 ≤ (rd_T85 l i).f1 ∧ (rd_T85 l i).f1 ≤ 8 := by
  have := hg.2.1.2.2 i h0 h1
  have h8 := hg.2.1.2.1
  omega

/-- The words of a text that is that of a graph. -/
theorem words_of {r : List ByteArray} {s : Int} {l : List S85} (hg : Gd s l) {S : ByteArray} (hr : r.map (·.data.toList) = spl 32 [] S.data.toList) (hS : S.data.toList = txt s l) : r.length = 1 + l.length ∧ (rdOf ByteArray.empty r 0).data.toList = Lib.itoa s ∧ ∀ i : Int, 0 ≤ i → i < l.length → (rdOf ByteArray.empty r (i + 1)).data.toList = wd (rd_T85 l i) := by
  rw [hS, txt_words hg] at hr
  have hlen : r.length = 1 + l.length := by
    have := congrArg List.length hr
    rw [List.length_map, List.length_cons, List.length_map] at this
    omega
  have at_ : ∀ j : Nat, ∀ x, (Lib.itoa s :: l.map wd)[j]? = some x → (rdOf ByteArray.empty r (j : Int)).data.toList = x := fun j x hx => by
    rw [← hr, List.getElem?_map] at hx
    obtain ⟨y, hy, rfl⟩ := Option.map_eq_some_iff.1 hx
    rw [rdO (l := r) (i := (j : Int)) hy]
  refine ⟨hlen, at_ 0 _ rfl, fun i i0 i1 => ?_⟩
  have h := at_ (i.toNat + 1) (wd (rd_T85 l i)) (by
    rw [List.getElem?_cons_succ, List.getElem?_map, List.getElem?_eq_getElem (by omega)]
    have := rdT_eq l i.toNat (by omega)
    rw [Int.toNat_of_nonneg i0] at this
    rw [this]
    rfl)
  rw [show ((i.toNat + 1 : Nat) : Int) = i + 1 by omega] at h
  exact h

theorem piece_size {r : List ByteArray} {S : ByteArray} {c : UInt8} (hr : r.map (·.data.toList) = spl c [] S.data.toList) {x : ByteArray} (hx : x ∈ r) : x.size ≤ S.size := by
  have : x.data.toList ∈ spl c [] S.data.toList := by rw [← hr]; exact List.mem_map.2 ⟨x, hx, rfl⟩
  have := spl_len c _ _ _ this
  rw [List.length_nil, Nat.zero_add, ← ba_size, ← ba_size] at this
  exact this
theorem spl_ne (c : UInt8) : ∀ (l cur : List UInt8), spl c cur l ≠ []
  | [], _ => by unfold spl; simp
  | b :: l, cur => by
    unfold spl
    by_cases h : b = c
    · rw [if_pos h]; simp
    · rw [if_neg h]; exact spl_ne c l _
theorem words_pos {r : List ByteArray} {S : ByteArray} {c : UInt8} (hr : r.map (·.data.toList) = spl c [] S.data.toList) : 0 < r.length := by
  rcases Nat.eq_zero_or_pos r.length with h | h
  · rw [List.length_eq_zero_iff.1 h] at hr
    exact (spl_ne c _ _ hr.symm).elim
  · exact h

/-! ### The program -/

theorem pg_impl_yes (S : ByteArray) (s : Int) (l : List S85) (hg : Gd s l) (hS : S.data.toList = txt s l) (r : List ByteArray) (hr : r.map (·.data.toList) = spl 32 [] S.data.toList) (hz : S.size ≤ 1048576) :
    Ev (fun k => impl_ParseGraph.l0 k true (r.drop 1) ((r.drop 1).length : Int) 0 s []) (s, l, true) := by
  obtain ⟨hlen, _, hw⟩ := words_of hg hr hS
  have h28 := good28 hg.2.1 hg.2.2
  have hd : ∀ i : Int, 0 ≤ i → i < l.length → rdOf ByteArray.empty (r.drop 1) i = rdOf ByteArray.empty r (i + 1) := fun i i0 i1 => by
    unfold rdOf
    rw [List.getD_eq_getElem?_getD, List.getD_eq_getElem?_getD, List.getElem?_drop, show 1 + i.toNat = (i + 1).toNat by omega]
  refine Cm.ev (Cm.up (fun k i (x : List S85) => impl_ParseGraph.l0 k true (r.drop 1) ((r.drop 1).length : Int) i s x) l.length (fun i x => 0 ≤ i ∧ x = l.take i.toNat) _ ?_ 0 [] (by omega) ⟨by omega, rfl⟩)
  rintro i x hi ⟨i0, hx⟩ ih
  have hxl : x.length = i.toNat := by rw [hx, List.length_take]; omega
  have hdl : (r.drop 1).length = l.length := by rw [List.length_drop]; omega
  by_cases h : i < (l.length : Int)
  · have he := edge_in hg i i0 h
    have hwi := hw i i0 h
    obtain ⟨w, hwd⟩ : ∃ w, w = rdOf ByteArray.empty r (i + 1) := ⟨_, rfl⟩
    rw [← hwd] at hwi
    have hws : w.size ≤ 1048576 := by
      obtain ⟨y, _, ey, _, hm⟩ := atO r (i + 1) (by omega) (by omega)
      have := piece_size hr hm
      rw [hwd, ey]
      omega
    refine Cm.step (fun k => by simp only [impl_ParseGraph.l0, if_pos (show i < ((r.drop 1).length : Int) by omega), if_pos i0, hd i i0 h, ← hwd]; try rfl) ?_
    unfold strings_Cut.f
    rw [if_pos (by omega)]
    refine Cm.bindE (Ev.now _) ?_
    dsimp only
    rw [hwi, wd_cut _ he.1]
    dsimp only
    have n0 : Num (Lib.itoa (rd_T85 l i).f0) ((rd_T85 l i).f0, true) := .inl ⟨_, by omega, rfl, rfl⟩
    have n1 : Num (Lib.itoa (rd_T85 l i).f1) ((rd_T85 l i).f1, true) := .inl ⟨_, by omega, rfl, rfl⟩
    have z0 := tx_len (rd_T85 l i).f0 (by omega) (by omega)
    have z1 := tx_len (rd_T85 l i).f1 (by omega) (by omega)
    have ht := ints_two (tx (rd_T85 l i).f0) (tx (rd_T85 l i).f1) (by rw [ba_size]; omega) (by rw [ba_size]; omega)
    rw [tx_data, tx_data] at ht
    refine Cm.bind ht ?_
    rintro z (⟨a, b, ha, hb, rfl⟩ | ⟨hno, _⟩)
    · have ea := num_at _ (by omega) (by omega) rfl ha
      have eb := num_at _ (by omega) (by omega) rfl hb
      injection ea with ea _
      injection eb with eb _
      refine Cm.pos rfl (Cm.pos (by simp) (Cm.pos (by simp) (Cm.pos (by omega) ?_)))
      rw [w64 (i + 1) (by omega) (by omega)]
      refine ih _ h ⟨by omega, ?_⟩
      rw [takeT l i i0 h, hx, show rd [a, b] 0 = a from rfl, show rd [a, b] 1 = b from rfl, ea, eb]
    · exact (hno ⟨_, _, n0, n1⟩).elim
  · refine Cm.step (fun k => by simp only [impl_ParseGraph.l0, if_neg (show ¬ i < ((r.drop 1).length : Int) by omega), if_true]; try rfl) ?_
    rw [show x = l by rw [hx, takeT_all l i (by omega)]]
    exact Cm.bindE hg.1.2 (Cm.pos rfl (Cm.now rfl))

theorem pg_impl_no (S : ByteArray) (hno : ¬ ∃ s l, Gd s l ∧ S.data.toList = txt s l) (r : List ByteArray) (hr : r.map (·.data.toList) = spl 32 [] S.data.toList) (hz : S.size ≤ 1048576) (hrl : r.length ≤ 1048576) (s : Int) (b : Bool) (hs : Num (rdOf ByteArray.empty r 0).data.toList (s, b)) :
    Ev (fun k => impl_ParseGraph.l0 k b (r.drop 1) ((r.drop 1).length : Int) 0 s []) (0, [], false) := by
  have hp := words_pos hr
  refine Cm.ev (Cm.up (fun k i (x : List S85) => impl_ParseGraph.l0 k b (r.drop 1) ((r.drop 1).length : Int) i s x) ((r.drop 1).length : Int) (fun i x => 0 ≤ i ∧ x.map wd = ((r.drop 1).take i.toNat).map (·.data.toList)) _ ?_ 0 [] (by omega) ⟨by omega, by simp⟩)
  rintro i x hi ⟨i0, hx⟩ ih
  have hxl : x.length = i.toNat := by
    have := congrArg List.length hx
    rw [List.length_map, List.length_map, List.length_take] at this
    omega
  have hdl : (r.drop 1).length ≤ 1048576 := by rw [List.length_drop]; omega
  by_cases h : i < ((r.drop 1).length : Int)
  · obtain ⟨w, _, ew, et, hm⟩ := atO (r.drop 1) i i0 h
    have hws := piece_size hr (List.mem_of_mem_drop hm)
    refine Cm.step (fun k => by simp only [impl_ParseGraph.l0, if_pos h, if_pos i0, ew]; try rfl) ?_
    unfold strings_Cut.f
    rw [if_pos (by omega)]
    refine Cm.bindE (Ev.now _) ?_
    dsimp only
    have hc : ∀ f g : List UInt8, f.length ≤ w.size → g.length ≤ w.size → Lib.cut w.data.toList [45] = (f, g, (Lib.cut w.data.toList [45]).2.2) → Cm (fun k => impl_readInts.f k [⟨f.toArray⟩, ⟨g.toArray⟩]) (Two f g) := fun f g hf hg _ => by
      have := ints_two ⟨f.toArray⟩ ⟨g.toArray⟩ (by rw [ba_size, List.toList_toArray]; omega) (by rw [ba_size, List.toList_toArray]; omega)
      rw [List.toList_toArray, List.toList_toArray] at this
      exact this
    have hl : (Lib.cut w.data.toList [45]).1.length ≤ w.size ∧ (Lib.cut w.data.toList [45]).2.1.length ≤ w.size := by
      rw [ba_size]
      rcases cutC 45 w.data.toList with h2 | ⟨p, q, h2, h3⟩
      · rw [cutN h2]; exact ⟨Nat.le_refl _, Nat.zero_le _⟩
      · rw [h2, cutS h3]; simp only [List.length_append, List.length_cons]; omega
    refine Cm.bind (hc _ _ hl.1 hl.2 rfl) ?_
    rintro z (⟨a, c, ha, hb, rfl⟩ | ⟨_, rfl⟩)
    · refine Cm.pos rfl (Cm.pos (by simp) (Cm.pos (by simp) (Cm.pos (by omega) ?_)))
      rw [w64 (i + 1) (by omega) (by omega)]
      refine ih _ h ⟨by omega, ?_⟩
      rw [et, List.map_append, List.map_append, hx, List.map_singleton, List.map_singleton, show rd [a, c] 0 = a from rfl, show rd [a, c] 1 = c from rfl, ← wd_of ha hb]
    · exact Cm.neg (by decide) (Cm.now rfl)
  · refine Cm.step (fun k => by simp only [impl_ParseGraph.l0, if_neg h]; try rfl) ?_
    cases b with
    | false => exact Cm.neg (by decide) (Cm.now rfl)
    | true =>
      refine Cm.pos rfl ?_
      rcases gd_cases s x (by omega) with hg | ⟨_, hI⟩
      · refine (hno ⟨s, x, hg, ?_⟩).elim
        obtain ⟨_, e0⟩ := num_true hs
        have h1 : r.map (·.data.toList) = Lib.itoa s :: x.map wd := by
          rw [hx, List.take_of_length_le (by omega), ← e0]
          cases r with
          | nil => simp at hp
          | cons y r => rfl
        rw [h1] at hr
        unfold txt
        rw [hr, spl_join, List.nil_append]
      · exact Cm.bindE hI (Cm.neg (by decide) (Cm.now rfl))

/-! ### The reference -/

theorem edge_some (w : ByteArray) (hw : w.size ≤ 1048576) : Cm (fun k => spec_l2ReadEdge.f k w) (fun _ => True) := by
  unfold spec_l2ReadEdge.f
  refine Cm.bind (split_spec w 45 hw) ?_
  intro r hr
  refine Cm.ite (fun h => Cm.pos (by omega) ?_) (fun _ => Cm.now trivial)
  refine Cm.bind (int_spec _) ?_
  intro z1 _
  refine Cm.pos (by omega) (Cm.bind (int_spec _) ?_)
  intro z2 _
  exact Cm.ite (fun _ => Cm.now trivial) (fun _ => Cm.now trivial)

theorem edge_yes (w : ByteArray) (hz : w.size ≤ 1048576) (e : S85) (h0 : 0 ≤ e.f0 ∧ e.f0 ≤ 8) (h1 : 0 ≤ e.f1 ∧ e.f1 ≤ 8) (hw : w.data.toList = wd e) : Ev (fun k => spec_l2ReadEdge.f k w) (e.f0, e.f1, true) := by
  refine Cm.ev ?_
  unfold spec_l2ReadEdge.f
  refine Cm.bind (split_spec w 45 hz) ?_
  intro r hr
  have n0 : (45 : UInt8) ∉ Lib.itoa e.f0 := fun hm => (itoa_byte _ h0.1 45 hm).1 rfl
  have n1 : (45 : UInt8) ∉ Lib.itoa e.f1 := fun hm => (itoa_byte _ h1.1 45 hm).1 rfl
  have hs : spl 45 [] (wd e) = [Lib.itoa e.f0, Lib.itoa e.f1] := by
    unfold wd
    rw [spl_app _ _ _ n0, spl_none _ _ n1]
    rfl
  rw [hw, hs] at hr
  obtain ⟨a, b, rfl⟩ : ∃ a b, r = [a, b] := by
    have := congrArg List.length hr
    rw [List.length_map] at this
    match r, this with
    | [a, b], _ => exact ⟨a, b, rfl⟩
  simp only [List.map_cons, List.map_nil, List.cons.injEq, and_true] at hr
  refine Cm.pos rfl (Cm.pos (by simp) (Cm.bind (int_spec _) ?_))
  intro z1 hz1
  have e1 := num_at e.f0 (by omega) (by omega) hr.1 hz1
  rw [e1]
  refine Cm.pos (by simp) (Cm.bind (int_spec _) ?_)
  intro z2 hz2
  have e2 := num_at e.f1 (by omega) (by omega) hr.2 hz2
  rw [e2]
  exact Cm.pos rfl (Cm.now rfl)

theorem pg_spec_yes (S : ByteArray) (s : Int) (l : List S85) (hg : Gd s l) (hS : S.data.toList = txt s l) (r : List ByteArray) (hr : r.map (·.data.toList) = spl 32 [] S.data.toList) (hz : S.size ≤ 1048576) :
    Ev (fun k => spec_ParseGraph.l0 k S r true 1 s []) (s, l, true) := by
  obtain ⟨hlen, _, hw⟩ := words_of hg hr hS
  have h28 := good28 hg.2.1 hg.2.2
  refine Cm.ev (Cm.up (fun k i (x : List S85) => spec_ParseGraph.l0 k S r true i s x) (l.length + 1 : Int) (fun i x => 1 ≤ i ∧ x = l.take (i - 1).toNat) _ ?_ 1 [] (by omega) ⟨by omega, rfl⟩)
  rintro i x hi ⟨i0, hx⟩ ih
  have hxl : x.length = (i - 1).toNat := by rw [hx, List.length_take]; omega
  by_cases h : i < (l.length : Int) + 1
  · have he := edge_in hg (i - 1) (by omega) (by omega)
    have hwi := hw (i - 1) (by omega) (by omega)
    rw [show i - 1 + 1 = i by omega] at hwi
    have hws : (rdOf ByteArray.empty r i).size ≤ 1048576 := by
      obtain ⟨y, _, ey, _, hm⟩ := atO r i (by omega) (by omega)
      have := piece_size hr hm
      rw [ey]
      omega
    refine Cm.step (fun k => by simp only [spec_ParseGraph.l0, if_pos (show i < (r.length : Int) by omega), if_pos (show i ≤ 29 by omega), if_pos (show 0 ≤ i by omega), if_true]; try rfl) ?_
    refine Cm.bindE (edge_yes _ hws _ ⟨he.1, he.2.1⟩ ⟨he.2.2.1, he.2.2.2⟩ hwi) (Cm.pos (by omega) ?_)
    rw [w64 (i + 1) (by omega) (by omega)]
    refine ih _ h ⟨by omega, ?_⟩
    have ht := takeT l (i - 1) (by omega) (by omega)
    rw [show i - 1 + 1 = i by omega] at ht
    rw [show i + 1 - 1 = i by omega, ht, hx]
  · refine Cm.step (fun k => by simp only [spec_ParseGraph.l0, if_neg (show ¬ i < (r.length : Int) by omega)]; try rfl) ?_
    rw [show x = l by rw [hx, List.take_of_length_le (by omega)]]
    refine Cm.step (fun k => by simp only [spec_ParseGraph.j1, if_true]; try rfl) (Cm.bindE hg.1.1 (Cm.pos rfl (Cm.bind (text_ev s l hg) ?_)))
    intro t ht
    rw [ByteArray.toList_eq, ByteArray.toList_eq, ht, hS]
    exact Cm.pos rfl (Cm.now rfl)

theorem pg_spec_no (S : ByteArray) (hno : ¬ ∃ s l, Gd s l ∧ S.data.toList = txt s l) (r : List ByteArray) (hr : r.map (·.data.toList) = spl 32 [] S.data.toList) (hz : S.size ≤ 1048576) (s : Int) (b : Bool) :
    Ev (fun k => spec_ParseGraph.l0 k S r b 1 s []) (0, [], false) := by
  have fin : ∀ (x : List S85) (f : Bool), x.length ≤ 1000 → Cm (fun k => spec_ParseGraph.j1 k S f s x) (fun z => z = (0, [], false)) := fun x f hx => by
    cases f with
    | false => exact Cm.step (fun k => by simp only [spec_ParseGraph.j1, Bool.false_eq_true, if_false]; try rfl) (Cm.now rfl)
    | true =>
      refine Cm.step (fun k => by simp only [spec_ParseGraph.j1, if_true]; try rfl) ?_
      rcases gd_cases s x (by omega) with hg | ⟨hN, _⟩
      · refine Cm.bindE hg.1.1 (Cm.pos rfl (Cm.bind (text_ev s x hg) ?_))
        intro t ht
        rw [ByteArray.toList_eq, ByteArray.toList_eq, ht]
        exact Cm.neg (fun e => hno ⟨s, x, hg, e.symm⟩) (Cm.now rfl)
      · exact Cm.bindE hN (Cm.neg (by decide) (Cm.now rfl))
  refine Cm.ev (Cm.up (fun k i (z : Bool × List S85) => spec_ParseGraph.l0 k S r z.1 i s z.2) 30 (fun i z => 1 ≤ i ∧ (z.2.length : Int) ≤ i) _ ?_ 1 (b, []) (by omega) ⟨by omega, by simp⟩)
  rintro i ⟨f, x⟩ hi ⟨i0, hx⟩ ih
  dsimp only at hx ⊢
  by_cases h : i < (r.length : Int)
  · by_cases h29 : i ≤ 29
    · have hws : (rdOf ByteArray.empty r i).size ≤ 1048576 := by
        obtain ⟨y, _, ey, _, hm⟩ := atO r i (by omega) (by omega)
        have := piece_size hr hm
        rw [ey]
        omega
      refine Cm.step (fun k => by simp only [spec_ParseGraph.l0, if_pos h, if_pos h29, if_pos (show 0 ≤ i by omega)]; try rfl) (Cm.bind (edge_some _ hws) ?_)
      intro z _
      rw [w64 (i + 1) (by omega) (by omega)]
      refine Cm.ite (fun _ => Cm.pos (by omega) ?_) (fun _ => Cm.pos (by omega) ?_)
      · exact ih (z.2.2, x ++ [(⟨z.1, z.2.1⟩ : S85)]) (by omega) ⟨by omega, by dsimp only; rw [List.length_append, List.length_singleton]; omega⟩
      · exact ih (false, x ++ [(⟨z.1, z.2.1⟩ : S85)]) (by omega) ⟨by omega, by dsimp only; rw [List.length_append, List.length_singleton]; omega⟩
    · exact Cm.step (fun k => by simp only [spec_ParseGraph.l0, if_pos h, if_neg h29]; try rfl) (fin x f (by omega))
  · exact Cm.step (fun k => by simp only [spec_ParseGraph.l0, if_neg h]; try rfl) (fin x f (by omega))

theorem txt_size {s : Int} {l : List S85} (hg : Gd s l) : (txt s l).length = 1 + 4 * l.length := by
  have hG := hg.2.1
  have h8 := hG.2.1
  have h0 := hG.1
  have : ∀ n : Nat, n ≤ l.length → (txt s (l.take n)).length = 1 + 4 * n := by
    intro n
    induction n with
    | zero =>
      intro _
      unfold txt
      rw [List.take_zero, List.map_nil, Lib.join_one, itoa_one s (by omega) (by omega)]
    | succ n ih =>
      intro hn
      have e := takeT l n (by omega) (by omega)
      rw [show ((n : Int) + 1).toNat = n + 1 by omega, show ((n : Int)).toNat = n by omega] at e
      have he := edge_in hg (n : Int) (by omega) (by omega)
      have hG2 := hG.2.2 (n : Int) (by omega) (by omega)
      rw [e, txt_snoc, List.length_append, ih (by omega)]
      unfold wd
      simp only [List.length_cons, List.length_append]
      rw [itoa_one _ he.1 (by omega), itoa_one _ he.2.2.1 (by omega)]
      omega
  have h := this l.length (Nat.le_refl _)
  rw [List.take_length] at h
  exact h

/-- Both read the same graph. -/
theorem pg_both (S : ByteArray) (hz : S.size ≤ 1048576) : ∃ (s : Int) (l : List S85) (b : Bool), l.length ≤ 1048576 ∧ (Gd s l ∧ b = true ∧ S.data.toList = txt s l ∨ (¬ ∃ s l, Gd s l ∧ S.data.toList = txt s l) ∧ s = 0 ∧ l = [] ∧ b = false) ∧ Ev (fun k => spec_ParseGraph.f k S) (s, l, b) ∧ Ev (fun k => impl_ParseGraph.f k S) (s, l, b) := by
  obtain ⟨r, hE, hr⟩ := split_spec S 32 hz
  have hL := split_lib S 32
  have hrL : Lib.splitB ⟨#[32]⟩ 0 (Lib.countB S ⟨#[32]⟩) S = r := map_ba (hL.trans hr.symm)
  have hp := words_pos hr
  have hrl : r.length ≤ 1048577 := by
    have h1 := Lib.splitB_all ⟨#[32]⟩ (Nat.le_refl 1) 0 _ S rfl
    have h2 := Lib.countB_le ⟨#[32]⟩ (Nat.le_refl 1) S.size S (Nat.le_refl _)
    rw [hrL] at h1
    omega
  have w0 : (rdOf ByteArray.empty r 0).size ≤ 1048576 := by
    obtain ⟨y, _, ey, _, hm⟩ := atO r 0 (by omega) (by omega)
    have := piece_size hr hm
    rw [ey]
    omega
  obtain ⟨s0, b0, hn0, hs0, hi0⟩ := int_both _ w0
  have specL : ∀ z, Ev (fun k => spec_ParseGraph.l0 k S r b0 1 s0 []) z → Ev (fun k => spec_ParseGraph.f k S) z := fun z h => by
    refine Cm.ev ?_
    unfold spec_ParseGraph.f
    exact Cm.bindE hE (Cm.pos (by omega) (Cm.bindE hs0 (Ev.cm h)))
  have implL : S.size ≤ 200 → ∀ z, Ev (fun k => impl_ParseGraph.l0 k b0 (r.drop 1) ((r.drop 1).length : Int) 0 s0 []) z → Ev (fun k => impl_ParseGraph.f k S) z := fun h2 z h => by
    refine Cm.ev ?_
    unfold impl_ParseGraph.f strings_Split.f
    rw [if_pos ⟨by omega, Nat.le_refl 1⟩, hrL]
    refine Cm.neg (by omega) (Cm.bindE (Ev.now _) (Cm.pos (by omega) ?_))
    rw [hi0]
    exact Cm.bindE (Ev.now _) (Cm.pos (by omega) (Cm.bindE (Ev.now _) (Ev.cm h)))
  by_cases hT : ∃ s l, Gd s l ∧ S.data.toList = txt s l
  · obtain ⟨s, l, hg, hS⟩ := hT
    have hG := hg.2.1
    have h28 := good28 hG hg.2.2
    have hsz := txt_size hg
    rw [← hS, ← ba_size] at hsz
    obtain ⟨_, e0, _⟩ := words_of hg hr hS
    have h1 := num_at s (by have := hG.1; omega) (by have := hG.2.1; omega) e0 hn0
    injection h1 with h1 h2
    subst h1
    subst h2
    exact ⟨s0, l, true, by omega, .inl ⟨hg, rfl, hS⟩, specL _ (pg_spec_yes S s0 l hg hS r hr hz), implL (by omega) _ (pg_impl_yes S s0 l hg hS r hr hz)⟩
  · refine ⟨0, [], false, by simp, .inr ⟨hT, rfl, rfl, rfl⟩, specL _ (pg_spec_no S hT r hr hz s0 b0), ?_⟩
    by_cases h2 : S.size ≤ 200
    · refine implL h2 _ (pg_impl_no S hT r hr hz ?_ s0 b0 hn0)
      have h3 := Lib.splitB_all ⟨#[32]⟩ (Nat.le_refl 1) 0 _ S rfl
      have h4 := Lib.countB_le ⟨#[32]⟩ (Nat.le_refl 1) S.size S (Nat.le_refl _)
      rw [hrL] at h3
      omega
    · refine Cm.ev ?_
      unfold impl_ParseGraph.f
      exact Cm.pos (by omega) (Cm.now rfl)

end Go.Proofs.YtnddlcbhabcejaaDoor.Gr
