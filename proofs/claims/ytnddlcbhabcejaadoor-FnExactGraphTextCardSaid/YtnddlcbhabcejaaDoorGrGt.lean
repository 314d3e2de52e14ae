/- The text of a graph by the library's joins; no conditions beyond those that each theorem names. -/
import Derived.Test.YtnddlcbhabcejaaDoorGrTx
import Derived.Test.YtnddlcbhabcejaaDoorPxImplGraphText
import Derived.Test.YtnddlcbhabcejaaDoorPxImplJoinInts
import Derived.Test.YtnddlcbhabcejaaDoorPxSpecGraphText
import Derived.Test.YtnddlcbhabcejaaDoorPxStringsJoin
namespace Go.Proofs.YtnddlcbhabcejaaDoor.Gr
open Go.RowKit Go.Proofs.YtnddlcbhabcejaaDoor.P Go.Proofs.YtnddlcbhabcejaaDoorW.PrintWords Go.Proofs.YtnddlcbhabcejaaDoorW.PrintLast Go.Proofs.YtnddlcbhabcejaaDoorW.PrintMore

theorem itoa_tx (n : Int) (h0 : 0 ≤ n) (h1 : n ≤ 9) : strconv_Itoa_49.f n = some (tx n) := by unfold strconv_Itoa_49.f; rw [if_pos ⟨by omega, by omega⟩]; rfl

theorem join_ev (a b : Int) (a0 : 0 ≤ a) (a9 : a ≤ 9) (b0 : 0 ≤ b) (b9 : b ≤ 9) : Cm (fun k => impl_joinInts.f k a b (⟨#[45]⟩ : ByteArray)) (fun r => r.data.toList = wd ⟨a, b⟩) := by
  have ia := itoa_tx a a0 a9
  have ib := itoa_tx b b0 b9
  have la := itoa_one a a0 a9
  have lb := itoa_one b b0 b9
  unfold impl_joinInts.f impl_joinList.f
  refine Cm.pos (by simp) (Cm.pos (by simp) ?_)
  show Cm (fun k => impl_joinList.l0 k (⟨#[45]⟩ : ByteArray) [(⟨#[]⟩ : ByteArray), (⟨#[]⟩ : ByteArray)] [a, b] 2 0) _
  refine Cm.step (fun k => by simp only [impl_joinList.l0, show rd [a, b] 0 = a from rfl, ia, Option.bind_some]; try rfl) (Cm.pos (by decide) (Cm.pos (by decide) (Cm.pos (by simp) (Cm.pos (by simp) ?_))))
  rw [w64 (0 + 1) (by omega) (by omega)]
  show Cm (fun k => impl_joinList.l0 k (⟨#[45]⟩ : ByteArray) [tx a, (⟨#[]⟩ : ByteArray)] [a, b] 2 1) _
  refine Cm.step (fun k => by simp only [impl_joinList.l0, show rd [a, b] 1 = b from rfl, ib, Option.bind_some]; try rfl) (Cm.pos (by decide) (Cm.pos (by decide) (Cm.pos (by simp) (Cm.pos (by simp) ?_))))
  rw [w64 (1 + 1) (by omega) (by omega)]
  show Cm (fun k => impl_joinList.l0 k (⟨#[45]⟩ : ByteArray) [tx a, tx b] [a, b] 2 2) _
  have hj : Lib.join ([tx a, tx b].map (·.data.toList)) (⟨#[45]⟩ : ByteArray).data.toList = wd ⟨a, b⟩ := by
    rw [List.map_cons, List.map_cons, List.map_nil, tx_data, tx_data, Lib.join_cons]
    unfold wd Lib.joinTail
    simp
  have hz : (wd (⟨a, b⟩ : S85)).length ≤ 140737488355328 := by
    unfold wd
    simp only [List.length_append, List.length_cons]
    omega
  refine Cm.step (fun k => by simp only [impl_joinList.l0, strings_Join.f, hj, if_pos (show [tx a, tx b].length ≤ 140737488355328 ∧ (wd (⟨a, b⟩ : S85)).length ≤ 140737488355328 from ⟨by simp, hz⟩), Option.bind_some]; try rfl) (Cm.neg (by decide) (Cm.now ?_))
  rw [List.toList_toArray]

theorem gtext_ev (s : Int) (l : List S85) (hg : Gd s l) : Cm (fun k => impl_graphText.f k s l) (fun r => r.data.toList = txt s l) := by
  have hG := hg.2.1
  have h0 := hG.1
  have h8 := hG.2.1
  have hl := good28 hG hg.2.2
  unfold impl_graphText.f
  rw [itoa_tx s (by omega) (by omega)]
  refine Cm.bindE (Ev.now _) ?_
  refine Cm.up (fun k i (x : ByteArray) => impl_graphText.l0 k x l (l.length : Int) i) l.length (fun i x => 0 ≤ i ∧ x.data.toList = txt s (l.take i.toNat) ∧ (x.size : Int) = 1 + 4 * i) _ ?_ 0 _ (by omega) ⟨by omega, ?_, ?_⟩
  · rintro i x hi ⟨i0, hx, hs⟩ ih
    by_cases h : i < (l.length : Int)
    · have he := hG.2.2 i i0 h
      have e0 := itoa_one (rd_T85 l i).f0 (by omega) (by omega)
      have e1 := itoa_one (rd_T85 l i).f1 (by omega) (by omega)
      have ap : ∀ a b : ByteArray, (a ++ b).size = a.size + b.size := fun a b => by rw [ba_size, ba_append, List.length_append, ← ba_size, ← ba_size]
      have h32 : (⟨#[32]⟩ : ByteArray).size = 1 := rfl
      refine Cm.step (fun k => by simp only [impl_graphText.l0, if_pos h, if_pos i0]; try rfl) (Cm.bind (join_ev _ _ (by omega) (by omega) (by omega) (by omega)) ?_)
      intro t ht
      have tz : t.size = 3 := by
        rw [ba_size, ht]
        unfold wd
        simp only [List.length_append, List.length_cons]
        omega
      refine Cm.pos (by omega) (Cm.pos (by rw [ap]; omega) ?_)
      rw [w64 (i + 1) (by omega) (by omega)]
      refine ih _ h ⟨by omega, ?_, by rw [ap, ap]; omega⟩
      rw [takeT l i i0 h, txt_snoc, ← hx, ba_append, ba_append, ht]
      rfl
    · refine Cm.step (fun k => by simp only [impl_graphText.l0, if_neg h]; try rfl) (Cm.now ?_)
      rw [hx, takeT_all l i (by omega)]
  · rw [tx_data]
    unfold txt
    rw [show (0 : Int).toNat = 0 from rfl, List.take_zero, List.map_nil, Lib.join_one]
  · rw [ba_size, tx_data, itoa_one s (by omega) (by omega)]
    rfl

/-- Both write the same text. -/
theorem gt_both (s : Int) (l : List S85) (hl : l.length ≤ 1048576) : ∃ t b, Ev (fun k => spec_GraphText.f k s l) (t, b) ∧ Ev (fun k => impl_GraphText.f k s l) (t, b) := by
  rcases gd_cases s l hl with hg | ⟨hN, hI⟩
  · refine ⟨⟨(txt s l).toArray⟩, true, ?_, ?_⟩
    · refine Cm.ev ?_
      unfold spec_GraphText.f
      refine Cm.bindE hg.1.1 (Cm.pos rfl (Cm.bind (text_ev s l hg) ?_))
      intro r hr
      rw [show r = ⟨(txt s l).toArray⟩ from ba_ext (by rw [hr, List.toList_toArray])]
      exact Cm.now rfl
    · refine Cm.ev ?_
      unfold impl_GraphText.f
      refine Cm.bindE hg.1.2 (Cm.pos rfl (Cm.bind (gtext_ev s l hg) ?_))
      intro r hr
      rw [show r = ⟨(txt s l).toArray⟩ from ba_ext (by rw [hr, List.toList_toArray])]
      exact Cm.now rfl
  · refine ⟨⟨#[]⟩, false, Cm.ev ?_, Cm.ev ?_⟩
    · unfold spec_GraphText.f
      exact Cm.bindE hN (Cm.neg (by decide) (Cm.now rfl))
    · unfold impl_GraphText.f
      exact Cm.bindE hI (Cm.neg (by decide) (Cm.now rfl))

end Go.Proofs.YtnddlcbhabcejaaDoor.Gr
