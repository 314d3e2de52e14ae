/- The pure law FnSplitJoin: what is split is joined again, and the order of texts is strict. -/
import Derived.Test.YtnddlcbhabcejaaDoorGrDt
import Derived.Test.YtnddlcbhabcejaaDoorGrSt
import Derived.Test.YtnddlcbhabcejaaDoorGrJs
import Derived.Test.YtnddlcbhabcejaaDoorPxLawsFnSplitJoin
namespace Go.Proofs.YtnddlcbhabcejaaDoor.Pure
open Go.RowKit Go.Proofs.YtnddlcbhabcejaaDoor.P Go.Proofs.YtnddlcbhabcejaaDoorW.PrintWords Go.Proofs.YtnddlcbhabcejaaDoorW.PrintLast Go.Proofs.YtnddlcbhabcejaaDoorW.PrintMore Go.Proofs.YtnddlcbhabcejaaDoor.Gr

theorem less_asym : ∀ a b : List UInt8, Op.bytesLess a b = true → Op.bytesLess b a = false
  | _, [], h => by unfold Op.bytesLess at h; cases h
  | [], _ :: _, _ => by unfold Op.bytesLess; rfl
  | x :: a, y :: b, h => by
    unfold Op.bytesLess at h ⊢
    simp only [Bool.or_eq_true, Bool.and_eq_true, decide_eq_true_eq, beq_iff_eq, Bool.or_eq_false_iff, Bool.and_eq_false_iff, decide_eq_false_iff_not, beq_eq_false_iff_ne] at h ⊢
    rcases h with h | ⟨h, h2⟩
    · refine ⟨fun h3 => ?_, .inl (fun h3 => ?_)⟩
      · rw [UInt8.lt_iff_toNat_lt] at h h3
        omega
      · rw [h3, UInt8.lt_iff_toNat_lt] at h
        omega
    · refine ⟨fun h3 => ?_, .inr (less_asym a b h2)⟩
      rw [h, UInt8.lt_iff_toNat_lt] at h3
      omega

theorem spl_no (c : UInt8) : ∀ (l cur : List UInt8), c ∉ cur → ∀ w ∈ spl c cur l, c ∉ w
  | [], cur, h, w, hw => by
    unfold spl at hw
    rw [List.mem_singleton.1 hw]
    exact h
  | b :: l, cur, h, w, hw => by
    unfold spl at hw
    by_cases hb : b = c
    · rw [if_pos hb] at hw
      rcases List.mem_cons.1 hw with e | e
      · rw [e]; exact h
      · exact spl_no c l [] (by simp) w e
    · rw [if_neg hb] at hw
      refine spl_no c l _ (fun hm => ?_) w hw
      rcases List.mem_append.1 hm with e | e
      · exact h e
      · exact hb (List.mem_singleton.1 e).symm
theorem spl_tot (c : UInt8) : ∀ (l cur : List UInt8), ((spl c cur l).map List.length).sum + (spl c cur l).length = cur.length + l.length + 1
  | [], cur => by unfold spl; simp
  | b :: l, cur => by
    unfold spl
    by_cases hb : b = c
    · rw [if_pos hb, List.map_cons, List.sum_cons, List.length_cons, List.length_cons]
      have := spl_tot c l []
      rw [List.length_nil] at this
      omega
    · rw [if_neg hb, spl_tot c l (cur ++ [b]), List.length_append]
      simp only [List.length_cons, List.length_nil]
      omega
theorem spl_back (c : UInt8) : ∀ (l cur : List UInt8), Lib.join (spl c cur l) [c] = cur ++ l
  | [], cur => by unfold spl; rw [Lib.join_one, List.append_nil]
  | b :: l, cur => by
    unfold spl
    by_cases h : b = c
    · rw [if_pos h, Lib.join_cons, h]
      have ih := spl_back c l []
      cases hs : spl c [] l with
      | nil => rw [hs] at ih; cases l with
        | nil => cases hs
        | cons b' l' => cases ih
      | cons x r =>
        rw [hs, Lib.join_cons, List.nil_append] at ih
        unfold Lib.joinTail at ih ⊢
        rw [List.map_cons, List.flatten_cons, ← ih]
        simp
    · rw [if_neg h, spl_back c l (cur ++ [b]), List.append_assoc]
      rfl

/-- What is split is joined again. -/
theorem back_cm (c : UInt8) (s : ByteArray) (hs : s.size ≤ 100) : Cm (fun k => impl_JoinStrings.f k (Lib.splitB ⟨#[c]⟩ 0 (Lib.countB s ⟨#[c]⟩) s) ⟨#[c]⟩) (fun z => z = (s, true)) := by
  have hm := split_lib s c
  generalize Lib.splitB ⟨#[c]⟩ 0 (Lib.countB s ⟨#[c]⟩) s = r at hm
  have ht : tot r + r.length = s.size + 1 := by
    have h := spl_tot c s.data.toList []
    rw [← hm, List.map_map, List.length_map, List.length_nil] at h
    rw [ba_size]
    unfold tot
    have e : (r.map (·.data.toList.length)) = r.map (List.length ∘ fun x => x.data.toList) := rfl
    rw [e]
    omega
  have h0 : r ≠ [] := fun e => by
    rw [e] at hm ht
    unfold tot at ht
    simp at ht
  have hp : 0 < r.length := List.length_pos_iff.2 h0
  unfold impl_JoinStrings.f
  refine Cm.neg (by omega) ?_
  rw [show (((⟨#[c]⟩ : ByteArray).size : Int) != 1) = false from rfl]
  refine Cm.step (fun k => by simp only [impl_JoinStrings.j0, Bool.false_eq_true, if_false]; try rfl) ?_
  rw [w64 _ (by omega) (by omega)]
  refine Cm.mono (join_impl c r (by omega) h0) ?_
  rintro z (⟨_, e⟩ | ⟨hno, _⟩)
  · rw [e, show jn c r = s from ba_ext (by rw [jn_data, hm, spl_back, List.nil_append])]
  · refine (hno ⟨fun x hx => ?_, by omega⟩).elim
    exact spl_no c s.data.toList [] (by simp) _ (by rw [← hm]; exact List.mem_map.2 ⟨x, hx, rfl⟩)

theorem drawSplit_cm {C : List Int} (hC : Code8 C) : Cm (fun _ => spec_DrawSplitString.f C) (fun r => r.1.size ≤ 10) := by
  unfold spec_DrawSplitString.f spec_DrawSplitString.st
  refine Cm.bind (P := fun r => r.1.size ≤ 10) ?_ (fun r h => Cm.now h)
  refine Cm.bind (any1_cm hC 0 0 (by omega) (by omega)) ?_
  rintro ⟨x, a1, s1⟩ ⟨hx, q0, q1⟩
  dsimp only at hx q0 q1 ⊢
  exact Cm.bind (of_cm hC a1 s1 _ (by omega) (by omega) (by decide) (by decide)) (fun r _ => Cm.now hx)
theorem drawLess_cm {C : List Int} (hC : Code8 C) : Cm (fun _ => spec_DrawLessString.f C) (fun _ => True) := by
  unfold spec_DrawLessString.f spec_DrawLessString.st
  refine Cm.bind (P := fun _ => True) ?_ (fun r h => Cm.now h)
  refine Cm.bind (any1_cm hC 0 0 (by omega) (by omega)) ?_
  rintro ⟨x, a1, s1⟩ ⟨hx, q0, q1⟩
  dsimp only at hx q0 q1 ⊢
  exact Cm.bind (any1_cm hC a1 s1 (by omega) (by omega)) (fun r _ => Cm.now trivial)
theorem drawJoin_cm {C : List Int} (hC : Code8 C) : Cm (fun k => spec_DrawJoinStrings.f k C) (fun r => r.1.length + tot r.1 ≤ 1048576) := by
  unfold spec_DrawJoinStrings.f spec_DrawJoinStrings.st
  refine Cm.bind (P := fun r => r.1.length + tot r.1 ≤ 1048576) ?_ (fun r h => Cm.now h)
  refine Cm.bind (pick_cm hC 0 0 4 (by omega) (by omega) (by omega) (by omega)) ?_
  rintro ⟨n, a, s⟩ ⟨n0, n1, a0, a1⟩
  dsimp only at n0 n1 a0 a1 ⊢
  refine Cm.up (fun k i (z : List ByteArray × Int × Int) => spec_DrawJoinStrings.l0 k z.1 n i C z.2.1 z.2.2) n (fun i z => 0 ≤ i ∧ (z.1.length : Int) = i ∧ tot z.1 ≤ 10 * z.1.length ∧ 0 ≤ z.2.1 ∧ z.2.1 ≤ 2 + 2 * i) _ ?_ 0 ([], a, s) (by omega) ⟨by omega, rfl, by simp [tot], by dsimp only; omega, by dsimp only; omega⟩
  rintro i ⟨x, a, s⟩ hi ⟨i0, hl, ht, b0, b1⟩ ih
  dsimp only at hl ht b0 b1 ⊢
  by_cases h : i < n
  · refine Cm.step (fun k => by simp only [spec_DrawJoinStrings.l0, if_pos h]; try rfl) (Cm.bind (any1_cm hC a s b0 (by omega)) ?_)
    rintro ⟨y, a2, s2⟩ ⟨hy, q0, q1⟩
    dsimp only at hy q0 q1 ⊢
    refine Cm.pos (by omega) ?_
    rw [w64 (i + 1) (by omega) (by omega)]
    have e1 : (x ++ [y]).length = x.length + 1 := by simp
    have e2 : tot (x ++ [y]) = tot x + y.size := by rw [tot_append, tot_one]
    exact ih (x ++ [y], a2, s2) h ⟨by omega, by dsimp only; omega, by dsimp only; omega, by dsimp only; omega, by dsimp only; omega⟩
  · refine Cm.step (fun k => by simp only [spec_DrawJoinStrings.l0, if_neg h]; try rfl) (Cm.bind (one_cm hC a s 20 b0 (by omega) (by omega) (by omega)) ?_)
    rintro ⟨b, a2, s2⟩ ⟨q0, q1⟩
    dsimp only at q0 q1 ⊢
    refine Cm.ite (fun _ => Cm.bind (pick_cm hC a2 s2 20 (by omega) (by omega) (by omega) (by omega)) ?_) (fun _ => Cm.bind (of_cm hC a2 s2 _ (by omega) (by omega) (by decide) (by decide)) (fun r _ => Cm.now (by dsimp only; omega)))
    rintro ⟨m, a3, s3⟩ ⟨m0, m1, q2, q3⟩
    dsimp only at m0 m1 q2 q3 ⊢
    rw [w64 (3990 + m) (by omega) (by omega)]
    refine Cm.pos (by omega) (Cm.pos (by omega) (Cm.pos (by omega) (Cm.bind (of_cm hC a3 s3 _ (by omega) (by omega) (by decide) (by decide)) (fun r _ => Cm.now ?_))))
    dsimp only
    rw [tot_append, tot_one, strOfNums_size, List.length_replicate, List.length_append, List.length_singleton]
    omega

/-- What SplitString answers to a short text. -/
def spS (s p : ByteArray) : List ByteArray × Bool := if (p.size : Int) = 1 then (Lib.splitB p 0 (Lib.countB s p) s, true) else ([], false)
theorem splitS (s p : ByteArray) (hs : s.size ≤ 10) : impl_SplitString.f s p = some (spS s p) := by
  unfold impl_SplitString.f spS strings_Split.f
  rw [if_neg (by omega)]
  by_cases hp : (p.size : Int) = 1
  · rw [if_pos hp, if_pos hp, if_pos ⟨by omega, by omega⟩]
    rfl
  · rw [if_neg hp, if_neg hp]

theorem FnSplitJoin : laws_FnSplitJoin.Pure := by
  intro C _ hx
  refine Ev.rounds (Cm.ev ?_)
  unfold laws_FnSplitJoin.f laws_vBig.f
  refine Cm.bindE (Ev.now _) (Cm.ite (fun _ => Cm.now rfl) (fun h => ?_))
  have hU : Code8 C := code_of (by rw [decide_eq_true_eq] at h; omega) hx
  refine Cm.bind (drawSplit_cm hU) ?_
  rintro ⟨s, p⟩ hs
  dsimp only at hs ⊢
  rw [splitS s p hs]
  refine Cm.bindE (Ev.now _) (Cm.bind (drawJoin_cm hU) ?_)
  rintro ⟨l, q⟩ hl
  obtain ⟨z, E1, E2⟩ := join_both l q hl
  refine Cm.bindE E2 (Cm.bindE E1 (Cm.bind (drawLess_cm hU) ?_))
  rintro ⟨a, b⟩ _
  have hz : ¬ (z.2 != z.2) = true := by simp
  have fin : Cm (fun k => laws_FnSplitJoin.j0 k s p (spS s p).1 (spS s p).2 false) (fun r => r = true) := by
    refine Cm.step (fun k => by simp only [laws_FnSplitJoin.j0, Bool.false_eq_true, if_false]; try rfl) ?_
    by_cases hp : (p.size : Int) = 1
    · have e : spS s p = (Lib.splitB p 0 (Lib.countB s p) s, true) := if_pos hp
      rw [e]
      obtain ⟨c, rfl, _⟩ := one_of (a := p) (by omega)
      refine Cm.pos hp (Cm.bind (back_cm c s (by omega)) ?_)
      rintro z rfl
      exact Cm.pos rfl (Cm.pos rfl (Cm.now (beq_self_eq_true _)))
    · have e : spS s p = ([], false) := if_neg hp
      rw [e]
      exact Cm.neg hp (Cm.neg (by decide) (Cm.now rfl))
  refine Cm.pos rfl (Cm.neg hz ?_)
  unfold impl_LessString.f spec_LessString.f
  refine Cm.bindE (Ev.now _) (Cm.bindE (Ev.now _) (Cm.neg (by simp) (Cm.bindE (Ev.now _) (Cm.ite (fun h1 => Cm.bindE (Ev.now _) ?_) (fun _ => fin)))))
  dsimp only at h1 ⊢
  rw [less_asym _ _ h1]
  exact fin

end Go.Proofs.YtnddlcbhabcejaaDoor.Pure
