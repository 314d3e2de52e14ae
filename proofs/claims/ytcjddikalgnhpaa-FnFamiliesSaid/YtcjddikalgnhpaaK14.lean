/- Functions of the program as Lean functions, that each call comes to what they say, and what holds of them; part 14 of 14; no conditions beyond those that each theorem names. -/
import Derived.KernelRfl
import Derived.Test.YtcjddikalgnhpaaK1
import Derived.Test.YtcjddikalgnhpaaK2
import Derived.Test.YtcjddikalgnhpaaK3
import Derived.Test.YtcjddikalgnhpaaK4
import Derived.Test.YtcjddikalgnhpaaK5
import Derived.Test.YtcjddikalgnhpaaK6
import Derived.Test.YtcjddikalgnhpaaK7
import Derived.Test.YtcjddikalgnhpaaK8
import Derived.Test.YtcjddikalgnhpaaK9
import Derived.Test.YtcjddikalgnhpaaK10
import Derived.Test.YtcjddikalgnhpaaK11
import Derived.Test.YtcjddikalgnhpaaK12
import Derived.Test.YtcjddikalgnhpaaK13
namespace Go.Proofs.Ytcjddikalgnhpaa.Gr
open Go.RowKit Go.Proofs.Ytcjddikalgnhpaa.P Go.Proofs.YtcjddikalgnhpaaW.PrintWords Go.Proofs.YtcjddikalgnhpaaW.PrintLast Go.Proofs.YtcjddikalgnhpaaW.PrintMore
/-- x is the least node of its part. -/
def Rep (l : List S71) (x : Int) : Prop := ∀ y : Int, 0 ≤ y → y < x → ¬ Con l (fun _ => true) y x
open Classical in
noncomputable def rep (l : List S71) (x : Int) : Bool := decide (Rep l x)
open Classical in
theorem rep_iff {l : List S71} {x : Int} : rep l x = true ↔ Rep l x := by unfold rep; exact decide_eq_true_iff
theorem con_all {l : List S71} {P : Int → Bool} {x v : Int} (h : Con l P x v) : Con l (fun _ => true) x v :=
  con_min (fun v => Con l (fun _ => true) x v) Con.base (fun u v hu _ hn => hu.step u v rfl hn) v h
theorem con_closed {l : List S71} {P : Int → Bool} (hP : ∀ u v, P u = true → near l u v = true → P v = true) {x v : Int} (hx : P x = true) (h : Con l (fun _ => true) x v) : P v = true ∧ Con l P x v :=
  con_min (fun v => P v = true ∧ Con l P x v) ⟨hx, Con.base⟩ (fun u v hu _ hn => ⟨hP u v hu.1 hn, hu.2.step u v (hP u v hu.1 hn) hn⟩) v h
theorem parts_count (s : Int) (l : List S71) : ∀ (n : Nat) (P : Int → Bool), (∀ u v, P u = true → near l u v = true → P v = true) → ((V s).filter P).length ≤ n → (partsF s l n P).length = ((V s).filter (fun x => P x && rep l x)).length := by
  have hnil : ∀ (n : Nat) (P : Int → Bool), (V s).filter P = [] → (partsF s l n P).length = ((V s).filter (fun x => P x && rep l x)).length := by
    intro n P h
    rw [partsF_nil h]
    symm
    rw [List.length_nil, List.length_eq_zero_iff, List.filter_eq_nil_iff]
    intro x hx hp
    have := List.filter_eq_nil_iff.1 h x hx
    rw [Bool.and_eq_true] at hp
    exact this hp.1
  intro n
  induction n with
  | zero => exact fun P _ hn => hnil 0 P (List.length_eq_zero_iff.1 (by omega))
  | succ n ih =>
    intro P hP hn
    cases h : (V s).filter P with
    | nil => exact hnil _ P h
    | cons x t =>
      have hxm : x ∈ (V s).filter P := by rw [h]; exact List.mem_cons_self
      obtain ⟨hx, hPx⟩ := mem_VF.1 hxm
      have hup : Up ((V s).filter P) := filter_up (V_up _) _
      have hlt : ∀ z, z ∈ (V s).filter P → z ≠ x → x < z := by
        intro z hz hne
        rw [h] at hz hup
        rcases List.mem_cons.1 hz with e | e
        · exact (hne e).elim
        · exact (List.pairwise_cons.1 hup).1 z e
      have hcl : ∀ v, cls l P x v = true ↔ Con l (fun _ => true) x v := fun v => cls_iff.trans ⟨con_all, fun hv => (con_closed hP hPx hv).2⟩
      have hP' : ∀ u v, (P u && !cls l P x u) = true → near l u v = true → (P v && !cls l P x v) = true := by
        intro u v hu hn
        rw [Bool.and_eq_true, Bool.not_eq_true'] at hu
        rw [Bool.and_eq_true, Bool.not_eq_true']
        refine ⟨hP u v hu.1 hn, ?_⟩
        rw [Bool.eq_false_iff]
        intro hv
        have h2 : cls l P x u = true := (hcl u).2 (((hcl v).1 hv).step v u rfl ((near_symm l v u).trans hn))
        rw [hu.2] at h2
        cases h2
      have hrl := rest_len (l := l) h
      rw [partsF_cons h, List.length_cons, ih _ hP' (by omega)]
      have key : (V s).filter (fun z => P z && rep l z) = x :: (V s).filter (fun z => (P z && !cls l P x z) && rep l z) := by
        refine up_ext (filter_up (V_up _) _) (List.pairwise_cons.2 ⟨fun z hz => ?_, filter_up (V_up _) _⟩) (fun z => ?_)
        · obtain ⟨hz1, hz2⟩ := mem_VF.1 hz
          rw [Bool.and_eq_true, Bool.and_eq_true, Bool.not_eq_true'] at hz2
          refine hlt z (mem_VF.2 ⟨hz1, hz2.1.1⟩) (fun e => ?_)
          rw [e, (hcl x).2 Con.base] at hz2
          cases hz2.1.2
        · rw [List.mem_cons, mem_VF, mem_VF, Bool.and_eq_true, Bool.and_eq_true, Bool.and_eq_true, Bool.not_eq_true', rep_iff]
          constructor
          · rintro ⟨hz, hp, hr⟩
            by_cases e : z = x
            · exact .inl e
            · refine .inr ⟨hz, ⟨hp, ?_⟩, hr⟩
              rw [Bool.eq_false_iff]
              exact fun hc => hr x hx.1 (hlt z (mem_VF.2 ⟨hz, hp⟩) e) ((hcl z).1 hc)
          · rintro (e | ⟨hz, ⟨hp, _⟩, hr⟩)
            · rw [e]
              refine ⟨hx, hPx, fun y y0 y1 hc => ?_⟩
              have hPy := (con_closed hP hPx (con_symm hc)).1
              have := hlt y (mem_VF.2 ⟨⟨y0, by omega⟩, hPy⟩) (by omega)
              omega
            · exact ⟨hz, hp, hr⟩
      rw [key, List.length_cons]
theorem parts_len {s : Int} {l : List S71} (h8 : s ≤ 8) : (partsF s l 8 (fun _ => true)).length = ((V s).filter (rep l)).length := by
  have hlen : ((V s).filter (fun _ => true)).length ≤ s.toNat := VF_len
  rw [parts_count s l 8 (fun _ => true) (fun _ _ _ _ => rfl) (by omega)]
  rfl
/-- A pair moved by d. -/
def mv (d : Int) (e : S71) : S71 := ⟨wrap64 (e.f0 + d), wrap64 (e.f1 + d)⟩
theorem mem_mv {s t : Int} {m : List S71} (s0 : 0 ≤ s) (h8 : s + t ≤ 8) (hH : Gr.Good t m) {u v : Int} : (⟨u, v⟩ : S71) ∈ m.map (mv s) ↔ (⟨u - s, v - s⟩ : S71) ∈ m := by
  rw [List.mem_map]
  constructor
  · rintro ⟨e, he, h⟩
    have hg := good_mem hH he
    unfold mv at h
    rw [w64 (e.f0 + s) (by omega) (by omega), w64 (e.f1 + s) (by omega) (by omega)] at h
    injection h with h1 h2
    rw [show u - s = e.f0 by omega, show v - s = e.f1 by omega]
    exact he
  · intro h
    refine ⟨_, h, ?_⟩
    have hg := good_mem hH h
    dsimp only at hg
    unfold mv
    dsimp only
    rw [w64 (u - s + s) (by omega) (by omega), w64 (v - s + s) (by omega) (by omega), show u - s + s = u by omega, show v - s + s = v by omega]
theorem near_beside {s t : Int} {l m : List S71} (s0 : 0 ≤ s) (h8 : s + t ≤ 8) (hH : Gr.Good t m) {u v : Int} : near (l ++ m.map (mv s)) u v = true ↔ near l u v = true ∨ near m (u - s) (v - s) = true := by
  rw [near_iff, near_iff, near_iff, List.mem_append, List.mem_append, mem_mv s0 h8 hH, mem_mv s0 h8 hH]
  constructor
  · rintro ((h | h) | (h | h))
    · exact .inl (.inl h)
    · exact .inr (.inl h)
    · exact .inl (.inr h)
    · exact .inr (.inr h)
  · rintro ((h | h) | (h | h))
    · exact .inl (.inl h)
    · exact .inr (.inl h)
    · exact .inl (.inr h)
    · exact .inr (.inr h)
section
variable {s t : Int} {l m : List S71} (h8 : s + t ≤ 8) (hG : Gr.Good s l) (hH : Gr.Good t m)
include h8 hG hH
theorem con_left {u v : Int} (hu : 0 ≤ u ∧ u < s) (h : Con (l ++ m.map (mv s)) (fun _ => true) u v) : Con l (fun _ => true) u v ∧ (0 ≤ v ∧ v < s) :=
  con_min (fun v => Con l (fun _ => true) u v ∧ (0 ≤ v ∧ v < s)) ⟨Con.base, hu⟩ (fun a b ha _ hn => by
    rcases (near_beside hG.1 h8 hH).1 hn with h | h
    · exact ⟨ha.1.step a b rfl h, (near_in hG h).2.1⟩
    · have := (near_in hH h).1
      omega) v h
theorem con_left' {u v : Int} (h : Con l (fun _ => true) u v) : Con (l ++ m.map (mv s)) (fun _ => true) u v :=
  con_min (fun v => Con (l ++ m.map (mv s)) (fun _ => true) u v) Con.base (fun a b ha _ hn => ha.step a b rfl ((near_beside hG.1 h8 hH).2 (.inl hn))) v h
theorem con_right {u v : Int} (hu : s ≤ u) (h : Con (l ++ m.map (mv s)) (fun _ => true) u v) : Con m (fun _ => true) (u - s) (v - s) ∧ s ≤ v :=
  con_min (fun v => Con m (fun _ => true) (u - s) (v - s) ∧ s ≤ v) ⟨Con.base, hu⟩ (fun a b ha _ hn => by
    rcases (near_beside hG.1 h8 hH).1 hn with h | h
    · have := (near_in hG h).1
      omega
    · have := (near_in hH h).2.1
      exact ⟨ha.1.step (a - s) (b - s) rfl h, by omega⟩) v h
theorem con_right' {u v : Int} (h : Con m (fun _ => true) u v) : Con (l ++ m.map (mv s)) (fun _ => true) (u + s) (v + s) :=
  con_min (fun v => Con (l ++ m.map (mv s)) (fun _ => true) (u + s) (v + s)) Con.base (fun a b ha _ hn => ha.step (a + s) (b + s) rfl ((near_beside hG.1 h8 hH).2 (.inr (by rw [show a + s - s = a by omega, show b + s - s = b by omega]; exact hn)))) v h
theorem rep_left {x : Int} (hx : 0 ≤ x ∧ x < s) : rep (l ++ m.map (mv s)) x = rep l x := by
  rw [Bool.eq_iff_iff, rep_iff, rep_iff]
  exact ⟨fun h y y0 y1 hc => h y y0 y1 (con_left' h8 hG hH hc), fun h y y0 y1 hc => h y y0 y1 (con_left h8 hG hH ⟨y0, by omega⟩ hc).1⟩
theorem rep_right {x : Int} (hx : 0 ≤ x) : rep (l ++ m.map (mv s)) (s + x) = rep m x := by
  have s0 := hG.1
  rw [Bool.eq_iff_iff, rep_iff, rep_iff]
  constructor
  · intro h y y0 y1 hc
    have := con_right' h8 hG hH hc
    rw [show x + s = s + x by omega] at this
    exact h (y + s) (by omega) (by omega) this
  · intro h y y0 y1 hc
    by_cases hy : y < s
    · have := (con_left h8 hG hH ⟨y0, hy⟩ hc).2
      omega
    · have := (con_right h8 hG hH (by omega) hc).1
      rw [show s + x - s = x by omega] at this
      exact h (y - s) (by omega) (by omega) this
/-- Graphs beside one another have their parts. -/
theorem parts_beside : (partsF (s + t) (l ++ m.map (mv s)) 8 (fun _ => true)).length = (partsF s l 8 (fun _ => true)).length + (partsF t m 8 (fun _ => true)).length := by
  have s0 := hG.1
  have t0 := hH.1
  rw [parts_len h8, parts_len hG.2.1, parts_len hH.2.1]
  have hV : V (s + t) = V s ++ (V t).map (fun x => s + x) := by
    unfold V
    rw [show (s + t).toNat = s.toNat + t.toNat by omega, List.range_add, List.map_append, List.map_map, List.map_map]
    congr 1
    refine List.map_congr_left (fun a _ => ?_)
    show ((s.toNat + a : Nat) : Int) = s + (a : Int)
    omega
  rw [hV, List.filter_append, List.length_append, List.filter_map, List.length_map]
  congr 2
  · exact List.filter_congr (fun x hx => rep_left h8 hG hH (mem_V.1 hx))
  · exact List.filter_congr (fun x hx => rep_right h8 hG hH (mem_V.1 hx).1)
end
/-- The graphs beside one another are a graph. -/
theorem good_beside {s t : Int} {l m : List S71} (h8 : s + t ≤ 8) (hG : Gr.Good s l) (hO : Sorted l) (hH : Gr.Good t m) (hQ : Sorted m) : Gr.Good (s + t) (l ++ m.map (mv s)) ∧ Sorted (l ++ m.map (mv s)) := by
  have s0 := hG.1
  have t0 := hH.1
  have rl : ∀ j : Int, 0 ≤ j → j < l.length → rd_T71 (l ++ m.map (mv s)) j = rd_T71 l j := by
    intro j j0 j1
    unfold rd_T71
    rw [List.getD_eq_getElem?_getD, List.getD_eq_getElem?_getD, List.getElem?_append_left (by omega)]
  have rr : ∀ j : Int, (l.length : Int) ≤ j → j < l.length + m.length → rd_T71 (l ++ m.map (mv s)) j = ⟨(rd_T71 m (j - l.length)).f0 + s, (rd_T71 m (j - l.length)).f1 + s⟩ := by
    intro j j0 j1
    have hm := hH.2.2 (j - l.length) (by omega) (by omega)
    have e : rd_T71 (l ++ m.map (mv s)) j = mv s (rd_T71 m (j - l.length)) := by
      have e1 : (j - (l.length : Int)).toNat = j.toNat - l.length := by omega
      have hlt : j.toNat - l.length < m.length := by omega
      unfold rd_T71
      rw [List.getD_eq_getElem?_getD, List.getD_eq_getElem?_getD, List.getElem?_append_right (by omega), List.getElem?_map, e1, List.getElem?_eq_getElem hlt]
      rfl
    rw [e]
    unfold mv
    rw [w64 _ (by omega) (by omega), w64 _ (by omega) (by omega)]
  have hlen : ((l ++ m.map (mv s)).length : Int) = l.length + m.length := by rw [List.length_append, List.length_map]; omega
  refine ⟨⟨by omega, h8, fun j j0 j1 => ?_⟩, fun j j0 j1 => ?_⟩
  · by_cases c : j < l.length
    · have := hG.2.2 j j0 c
      rw [rl j j0 c]
      omega
    · have := hH.2.2 (j - l.length) (by omega) (by omega)
      rw [rr j (by omega) (by omega)]
      dsimp only
      omega
  · by_cases c : j < l.length
    · have := hO j j0 c
      rw [rl j (by omega) c, rl (j - 1) (by omega) (by omega)]
      exact this
    · by_cases c2 : j = l.length
      · have h1 := hG.2.2 (j - 1) (by omega) (by omega)
        have h2 := hH.2.2 (j - l.length) (by omega) (by omega)
        rw [rr j (by omega) (by omega), rl (j - 1) (by omega) (by omega)]
        dsimp only
        left
        omega
      · have h1 := hQ (j - l.length) (by omega) (by omega)
        rw [rr j (by omega) (by omega), rr (j - 1) (by omega) (by omega), show j - 1 - (l.length : Int) = j - l.length - 1 by omega]
        dsimp only
        omega
end Go.Proofs.Ytcjddikalgnhpaa.Gr
namespace Go.Proofs.Ytcjddikalgnhpaa.Gr
open Go.RowKit Go.Proofs.Ytcjddikalgnhpaa.P Go.Proofs.YtcjddikalgnhpaaW.PrintWords Go.Proofs.YtcjddikalgnhpaaW.PrintLast Go.Proofs.YtcjddikalgnhpaaW.PrintMore
theorem drop_rdP (l : List S71) (i : Int) (h0 : 0 ≤ i) (h1 : i < l.length) : l.drop i.toNat = rd_T71 l i :: l.drop (i + 1).toNat := by
  have e : (i + 1).toNat = i.toNat + 1 := by omega
  rw [e, List.drop_eq_getElem_cons (by omega)]
  congr 1
  have := rd_lt l i h0 h1
  rw [List.getElem?_eq_getElem (by omega)] at this
  exact Option.some.inj this
theorem besS_loop (s t n : Int) (l m T : List S71) (hm : m.length ≤ 1048576) (i : Int) (a : List S71) (hi : i ≤ m.length) (hI : 0 ≤ i ∧ (a.length : Int) ≤ 1048576 + i ∧ a ++ (m.drop i.toNat).map (mv s) = T) :
    Cm (fun k => spec_PutBeside.l0 k i s l t m n a) (fun x => x = (n, T, true)) := by
  refine Cm.up (fun k i a => spec_PutBeside.l0 k i s l t m n a) m.length (fun i a => 0 ≤ i ∧ (a.length : Int) ≤ 1048576 + i ∧ a ++ (m.drop i.toNat).map (mv s) = T) _ ?_ i a hi hI
  intro i a hi ⟨h0, hl, hT⟩ ih
  by_cases h : i < m.length
  · rw [drop_rdP m i h0 h, List.map_cons] at hT
    refine Cm.step (fun k => by simp (disch := omega) only [spec_PutBeside.l0, w64 (i + 1), if_pos]; rfl) (ih _ h ⟨by omega, by rw [List.length_append, List.length_singleton]; omega, ?_⟩)
    rw [← hT, List.append_assoc]
    rfl
  · refine Cm.step (fun k => by simp (disch := omega) only [spec_PutBeside.l0, if_neg]; rfl) (Cm.now ?_)
    rw [List.drop_eq_nil_of_le (by omega), List.map_nil, List.append_nil] at hT
    rw [hT]
theorem besI_loop (s n : Int) (l m T : List S71) (hm : m.length ≤ 1048576) (i : Int) (a : List S71) (hi : i ≤ m.length) (hI : 0 ≤ i ∧ (a.length : Int) ≤ 1048576 + i ∧ a ++ (m.drop i.toNat).map (mv s) = T) :
    Cm (fun k => impl_PutBeside.l0 k m m.length i s l n a) (fun x => x = (n, T, true)) := by
  refine Cm.up (fun k i a => impl_PutBeside.l0 k m m.length i s l n a) m.length (fun i a => 0 ≤ i ∧ (a.length : Int) ≤ 1048576 + i ∧ a ++ (m.drop i.toNat).map (mv s) = T) _ ?_ i a hi hI
  intro i a hi ⟨h0, hl, hT⟩ ih
  by_cases h : i < m.length
  · rw [drop_rdP m i h0 h, List.map_cons] at hT
    refine Cm.step (fun k => by simp (disch := omega) only [impl_PutBeside.l0, w64 (i + 1), if_pos]; rfl) (ih _ h ⟨by omega, by rw [List.length_append, List.length_singleton]; omega, ?_⟩)
    rw [← hT, List.append_assoc]
    rfl
  · refine Cm.step (fun k => by simp (disch := omega) only [impl_PutBeside.l0, if_neg]; rfl) (Cm.now ?_)
    rw [List.drop_eq_nil_of_le (by omega), List.map_nil, List.append_nil] at hT
    rw [hT]
theorem beside_ex (s t : Int) (l m : List S71) (hl : l.length ≤ 1048576) (hm : m.length ≤ 1048576) : ∃ n es b, (b = true → (Gr.Good s l ∧ Sorted l ∧ Ev (fun k => impl_IsGraph.f k s l) true) ∧ (Gr.Good t m ∧ Sorted m ∧ Ev (fun k => impl_IsGraph.f k t m) true) ∧ s + t ≤ 8 ∧ n = s + t ∧ es = l ++ m.map (mv s)) ∧ es.length ≤ l.length + m.length ∧ Ev (fun k => spec_PutBeside.f k s l t m) (n, es, b) ∧ Ev (fun k => impl_PutBeside.f k s l t m) (n, es, b) := by
  obtain ⟨b1, hg1, hS1, hI1⟩ := isGraph_full s l hl
  obtain ⟨b2, hg2, hS2, hI2⟩ := isGraph_full t m hm
  by_cases hc : b1 = true ∧ b2 = true ∧ s + t ≤ 8
  · obtain ⟨rfl, rfl, h8⟩ := hc
    have g1 := (hg1 rfl).1
    have g2 := (hg2 rfl).1
    have a1 := g1.1
    have a2 := g2.1
    refine ⟨s + t, l ++ m.map (mv s), true, fun _ => ⟨⟨g1, (hg1 rfl).2, hI1⟩, ⟨g2, (hg2 rfl).2, hI2⟩, h8, rfl, rfl⟩, by simp, Cm.ev ?_, Cm.ev ?_⟩
    · unfold spec_PutBeside.f
      refine Cm.bindE hS1 (Cm.pos rfl (Cm.bindE hS2 (Cm.pos rfl ?_)))
      have hd : decide (wrap64 (s + t) > 8) = false := by rw [w64 (s + t) (by omega) (by omega)]; exact decide_eq_false (by omega)
      rw [hd]
      refine Cm.step (fun k => by simp (disch := omega) only [spec_PutBeside.j0, w64 (s + t), Bool.false_eq_true, if_false, Option.bind_some, List.nil_append, List.length_nil, Nat.zero_add, if_pos]; rfl) ?_
      exact besS_loop s t (s + t) l m _ hm 0 l (by omega) ⟨by omega, by omega, rfl⟩
    · unfold impl_PutBeside.f
      refine Cm.bindE hI1 (Cm.pos rfl (Cm.bindE hI2 (Cm.pos rfl ?_)))
      have hd : decide (wrap64 (s + t) > 8) = false := by rw [w64 (s + t) (by omega) (by omega)]; exact decide_eq_false (by omega)
      rw [hd]
      refine Cm.step (fun k => by simp (disch := omega) only [impl_PutBeside.j0, slices_Clone_2_int_2_int.f, w64 (s + t), Bool.false_eq_true, if_false, Option.bind_some, if_pos]; rfl) ?_
      exact besI_loop s (s + t) l m _ hm 0 l (by omega) ⟨by omega, by omega, rfl⟩
  · have sj : ∀ k, spec_PutBeside.j0 (k + 1) true s l t m = some (0, [], false) := fun k => by simp only [spec_PutBeside.j0, if_true]
    have ij : ∀ k, impl_PutBeside.j0 (k + 1) true s l t m = some (0, [], false) := fun k => by simp only [impl_PutBeside.j0, if_true]
    have sJ : Cm (fun k => spec_PutBeside.j0 k true s l t m) (fun x => x = (0, [], false)) := Cm.step sj (Cm.now rfl)
    have iJ : Cm (fun k => impl_PutBeside.j0 k true s l t m) (fun x => x = (0, [], false)) := Cm.step ij (Cm.now rfl)
    refine ⟨0, [], false, fun h => Bool.noConfusion h, by simp, Cm.ev ?_, Cm.ev ?_⟩
    · unfold spec_PutBeside.f
      refine Cm.bindE hS1 (Cm.ite (fun h1 => Cm.bindE hS2 (Cm.ite (fun h2 => ?_) (fun _ => sJ))) (fun _ => sJ))
      have g1 := (hg1 h1).1
      have g2 := (hg2 h2).1
      have a1 := g1.1
      have a2 := g2.1
      have a3 := g1.2.1
      have a4 := g2.2.1
      have hd : decide (wrap64 (s + t) > 8) = true := by rw [w64 (s + t) (by omega) (by omega)]; exact decide_eq_true (Int.not_le.1 (fun h => hc ⟨h1, h2, h⟩))
      rw [hd]
      exact sJ
    · unfold impl_PutBeside.f
      refine Cm.bindE hI1 (Cm.ite (fun h1 => Cm.bindE hI2 (Cm.ite (fun h2 => ?_) (fun _ => iJ))) (fun _ => iJ))
      have g1 := (hg1 h1).1
      have g2 := (hg2 h2).1
      have a1 := g1.1
      have a2 := g2.1
      have a3 := g1.2.1
      have a4 := g2.2.1
      have hd : decide (wrap64 (s + t) > 8) = true := by rw [w64 (s + t) (by omega) (by omega)]; exact decide_eq_true (Int.not_le.1 (fun h => hc ⟨h1, h2, h⟩))
      rw [hd]
      exact iJ
theorem has_eq (s : Int) (m : List Int) (u v : Int) (hm : Masks s m) (hu0 : 0 ≤ u) (hu1 : u < s) (hv0 : 0 ≤ v) : impl_net_has.f m u v = some (bit (rd m u) v) := by
  unfold impl_net_has.f
  rw [if_pos hu0, if_pos (by rw [hm.1]; exact hu1), if_pos hv0]
  rfl
end Go.Proofs.Ytcjddikalgnhpaa.Gr
namespace Go.Proofs.Ytcjddikalgnhpaa.Gr
open Go.RowKit Go.Proofs.Ytcjddikalgnhpaa.P Go.Proofs.YtcjddikalgnhpaaW.PrintWords Go.Proofs.YtcjddikalgnhpaaW.PrintLast
set_option maxRecDepth 10000 in
theorem by_row (h : Int → Int → Bool) (n x : Int) (rest : List S71) (hn : n ≤ 1000) (hx0 : 0 ≤ x) (hnx : ∀ es : List S71, (es.length : Int) ≤ (x + 1) * 1000 → Ev (fun k => impl_graphBy.l0 k h n (x + 1) es) (es ++ rest)) :
    ∀ (d : Nat) (y : Int) (es : List S71), x < y → n - y = d → (es.length : Int) ≤ x * 1000 + y → Ev (fun k => impl_graphBy.l1 k h n x y es) (es ++ (rowF h x d y ++ rest)) := by
  intro d
  induction d with
  | zero =>
    intro y es hxy hd hes
    have hw : wrap64 (x + 1) = x + 1 := by unfold wrap64; omega
    refine Ev.step (fun k => ?_) (hnx es (by omega))
    simp only [impl_graphBy.l1]
    rw [if_neg (by omega), hw]
  | succ d ih =>
    intro y es hxy hd hes
    have hw : wrap64 (y + 1) = y + 1 := by unfold wrap64; omega
    by_cases hc : h x y = true
    · have hr := ih (y + 1) (es ++ [⟨x, y⟩]) (by omega) (by omega) (by rw [List.length_append, List.length_singleton]; omega)
      have e : es ++ (rowF h x (d + 1) y ++ rest) = es ++ [⟨x, y⟩] ++ (rowF h x d (y + 1) ++ rest) := by
        conv => lhs; unfold rowF
        rw [if_pos hc]
        simp
      rw [e]
      refine Ev.step (fun k => ?_) hr
      simp only [impl_graphBy.l1]
      rw [if_pos (by omega), if_pos hc, if_pos (by omega), hw]
    · have hr := ih (y + 1) es (by omega) (by omega) (by omega)
      have e : es ++ (rowF h x (d + 1) y ++ rest) = es ++ (rowF h x d (y + 1) ++ rest) := by
        conv => lhs; unfold rowF
        rw [if_neg hc]
        simp
      rw [e]
      refine Ev.step (fun k => ?_) hr
      simp only [impl_graphBy.l1]
      rw [if_pos (by omega), if_neg hc, hw]
set_option maxRecDepth 10000 in
theorem by_all (h : Int → Int → Bool) (n : Int) (hn : n ≤ 1000) : ∀ (d : Nat) (x : Int) (es : List S71), 0 ≤ x → n - x = d → (es.length : Int) ≤ x * 1000 → Ev (fun k => impl_graphBy.l0 k h n x es) (es ++ allF h d x) := by
  intro d
  induction d with
  | zero =>
    intro x es hx hd hes
    rw [show allF h 0 x = [] from rfl, List.append_nil]
    refine Ev.step (f := fun _ => some es) (fun k => ?_) (Ev.now es)
    simp only [impl_graphBy.l0]
    rw [if_neg (by omega)]
  | succ d ih =>
    intro x es hx hd hes
    have hw : wrap64 (x + 1) = x + 1 := by unfold wrap64; omega
    have hr := by_row h n x (allF h d (x + 1)) hn hx (fun es' he => ih (x + 1) es' (by omega) (by omega) he) d (x + 1) es (by omega) (by omega) (by omega)
    rw [show allF h (d + 1) x = rowF h x d (x + 1) ++ allF h d (x + 1) from rfl]
    refine Ev.step (fun k => ?_) hr
    simp only [impl_graphBy.l0]
    rw [if_pos (by omega), hw]
theorem by_ev (h : Int → Int → Bool) (n : Int) (h0 : 0 ≤ n) (hn : n ≤ 1000) : Ev (fun k => impl_graphBy.f k h n) (pairs h n) := by
  obtain ⟨K, hK⟩ := by_all h n hn n.toNat 0 [] (by omega) (by omega) (by simp)
  dsimp only at hK
  exact ⟨K, fun k hk => by dsimp only; unfold impl_graphBy.f; rw [hK k hk]; rfl⟩
theorem okBy_all (c : Int → Int → Option Bool) (n : Int) (h : ∀ x y, 0 ≤ x → x < y → y < n → (c x y).isSome = true) : okBy c n = true := by
  unfold okBy
  rw [List.all_eq_true]
  intro y hy
  rw [List.all_eq_true]
  intro x hx
  have hy := List.mem_range.1 hy
  have hx := List.mem_range.1 hx
  exact h x y (by omega) (by omega) (by omega)
end Go.Proofs.Ytcjddikalgnhpaa.Gr
namespace Go.Proofs.Ytcjddikalgnhpaa.Gr
open Go.RowKit Go.Proofs.Ytcjddikalgnhpaa.P Go.Proofs.YtcjddikalgnhpaaW.PrintWords Go.Proofs.YtcjddikalgnhpaaW.PrintLast Go.Proofs.YtcjddikalgnhpaaW.PrintMore
/-- Near, by places in a list of nodes. -/
def nearAt (l : List S71) (L : List Int) (x y : Int) : Bool := near l (rd L x) (rd L y)
set_option maxRecDepth 10000 in
theorem ind_row (s : Int) (l : List S71) (hl : l.length ≤ 1048576) (L : List Int) (x n : Int) (rest : List S71) (hn : L.length ≤ 1000) (hx0 : 0 ≤ x) (hxn : x < L.length)
    (hnx : ∀ es : List S71, (es.length : Int) ≤ (x + 1) * 1000 → Ev (fun k => spec_l2Induced.l0 k L (x + 1) s l n es) (n, es ++ rest)) :
    ∀ (d : Nat) (y : Int) (es : List S71), x < y → (L.length : Int) - y = d → (es.length : Int) ≤ x * 1000 + y → Ev (fun k => spec_l2Induced.l1 k L x y s l n es) (n, es ++ (rowF (nearAt l L) x d y ++ rest)) := by
  intro d
  induction d with
  | zero =>
    intro y es hxy hd hes
    have hw : wrap64 (x + 1) = x + 1 := by unfold wrap64; omega
    refine Ev.step (fun k => ?_) (hnx es (by omega))
    simp only [spec_l2Induced.l1]
    rw [if_neg (by omega), hw]
  | succ d ih =>
    intro y es hxy hd hes
    have hw : wrap64 (y + 1) = y + 1 := by unfold wrap64; omega
    have hne := near_ev s l (rd L x) (rd L y) hl
    have e0 : ∀ k, spec_l2Induced.l1 (k + 1) L x y s l n es = (spec_l2Near.f k s l (rd L x) (rd L y)).bind fun t => if t = true then (if es.length < 8796093022208 then spec_l2Induced.l1 k L x (y + 1) s l n (es ++ [⟨x, y⟩]) else none) else spec_l2Induced.l1 k L x (y + 1) s l n es := fun k => by
      simp only [spec_l2Induced.l1]
      rw [if_pos (by omega), if_pos hx0, if_pos hxn, if_pos (by omega), hw]
    refine Ev.step e0 (Ev.bind hne ?_)
    by_cases hc : near l (rd L x) (rd L y) = true
    · have hr := ih (y + 1) (es ++ [⟨x, y⟩]) (by omega) (by omega) (by rw [List.length_append, List.length_singleton]; omega)
      have e : es ++ (rowF (nearAt l L) x (d + 1) y ++ rest) = es ++ [⟨x, y⟩] ++ (rowF (nearAt l L) x d (y + 1) ++ rest) := by
        conv => lhs; unfold rowF
        rw [if_pos (show nearAt l L x y = true from hc)]
        simp
      rw [e]
      refine Ev.congr (fun k => ?_) hr
      rw [if_pos hc, if_pos (by omega)]
    · have hr := ih (y + 1) es (by omega) (by omega) (by omega)
      have e : es ++ (rowF (nearAt l L) x (d + 1) y ++ rest) = es ++ (rowF (nearAt l L) x d (y + 1) ++ rest) := by
        conv => lhs; unfold rowF
        rw [if_neg (show ¬ nearAt l L x y = true from hc)]
        simp
      rw [e]
      refine Ev.congr (fun k => ?_) hr
      rw [if_neg hc]
set_option maxRecDepth 10000 in
theorem ind_all (s : Int) (l : List S71) (hl : l.length ≤ 1048576) (L : List Int) (n : Int) (hn : L.length ≤ 1000) : ∀ (d : Nat) (x : Int) (es : List S71), 0 ≤ x → (L.length : Int) - x = d → (es.length : Int) ≤ x * 1000 → Ev (fun k => spec_l2Induced.l0 k L x s l n es) (n, es ++ allF (nearAt l L) d x) := by
  intro d
  induction d with
  | zero =>
    intro x es hx hd hes
    rw [show allF (nearAt l L) 0 x = [] from rfl, List.append_nil]
    refine Ev.step (f := fun _ => some (n, es)) (fun k => ?_) (Ev.now _)
    simp only [spec_l2Induced.l0]
    rw [if_neg (by omega)]
  | succ d ih =>
    intro x es hx hd hes
    have hw : wrap64 (x + 1) = x + 1 := by unfold wrap64; omega
    have hr := ind_row s l hl L x n (allF (nearAt l L) d (x + 1)) hn hx (by omega) (fun es' he => ih (x + 1) es' (by omega) (by omega) he) d (x + 1) es (by omega) (by omega) (by omega)
    rw [show allF (nearAt l L) (d + 1) x = rowF (nearAt l L) x d (x + 1) ++ allF (nearAt l L) d (x + 1) from rfl]
    refine Ev.step (fun k => ?_) hr
    simp only [spec_l2Induced.l0]
    rw [if_pos (by omega), hw]
theorem ind_spec (s : Int) (l : List S71) (hl : l.length ≤ 1048576) (L : List Int) (hn : L.length ≤ 1000) : Ev (fun k => spec_l2Induced.f k s l L) ((L.length : Int), pairs (nearAt l L) L.length) :=
  ind_all s l hl L L.length hn L.length 0 [] (by omega) (by omega) (by simp)
theorem ind_impl (s : Int) (l : List S71) (hG : Good s l) (m : List Int) (hm : Masks s m) (hb : ∀ u v : Int, 0 ≤ u → u < s → 0 ≤ v → v < 8 → bit (rd m u) v = near l u v)
    (L : List Int) (hn : L.length ≤ 1000) (hL : ∀ x : Int, 0 ≤ x → x < L.length → 0 ≤ rd L x ∧ rd L x < s) : Ev (fun k => impl_net_induced.f k m L) ((L.length : Int), pairs (nearAt l L) L.length) := by
  have h8 := hG.2.1
  have hc : ∀ x y : Int, 0 ≤ x → x < y → y < L.length → impl_graphBy_induced.c m L x y = some (nearAt l L x y) := fun x y h0 h1 h2 => by
    have a := hL x h0 (by omega)
    have b := hL y (by omega) h2
    unfold impl_graphBy_induced.c impl_net_induced_1.f
    rw [if_pos h0, if_pos (by omega), if_pos (by omega), if_pos h2, has_eq s m _ _ hm a.1 a.2 b.1, Option.bind_some, hb _ _ a.1 a.2 b.1 (by omega)]
    rfl
  have hok : okBy (impl_graphBy_induced.c m L) L.length = true := okBy_all _ _ (fun x y h0 h1 h2 => by rw [hc x y h0 h1 h2]; rfl)
  have hp : pairs (fun x y => (impl_graphBy_induced.c m L x y).getD false) L.length = pairs (nearAt l L) L.length := pairs_congr _ _ _ (fun x y h0 h1 h2 => by rw [hc x y h0 h1 h2]; rfl)
  refine Ev.bind (a := ((L.length : Int), pairs (nearAt l L) L.length)) ?_ (Ev.now _)
  obtain ⟨K, hK⟩ := by_ev (fun x y => (impl_graphBy_induced.c m L x y).getD false) L.length (by omega) (by omega)
  dsimp only at hK
  refine ⟨K, fun k hk => ?_⟩
  dsimp only
  unfold impl_graphBy_induced.f
  rw [if_pos ⟨⟨by omega, by omega⟩, hok⟩, hK k hk, hp]
  rfl
end Go.Proofs.Ytcjddikalgnhpaa.Gr
namespace Go.Proofs.Ytcjddikalgnhpaa.Gr
open Go.RowKit Go.Proofs.Ytcjddikalgnhpaa.P Go.Proofs.YtcjddikalgnhpaaW.PrintWords Go.Proofs.YtcjddikalgnhpaaW.PrintLast
theorem within_eq (a lo hi : Int) : impl_within.f a lo hi = some (decide (lo ≤ a ∧ a ≤ hi)) := by
  unfold impl_within.f
  by_cases h : a ≥ lo
  · rw [if_pos h]
    simp [show lo ≤ a from h]
  · rw [if_neg h]
    simp [show ¬ lo ≤ a from h]
theorem one_within (v hi : Int) : Ev (fun k => impl_allWithin.f k [v] 0 hi) (decide (0 ≤ v ∧ v ≤ hi)) := by
  refine ⟨2, fun k hk => ?_⟩
  obtain ⟨k, rfl⟩ : ∃ m, k = m + 2 := ⟨k - 2, by omega⟩
  dsimp only
  have hw : wrap64 (0 + 1) = 1 := by unfold wrap64; omega
  unfold impl_allWithin.f
  simp only [impl_allWithin.l0, within_eq, Option.bind_some, hw, decide_eq_true_eq]
  have r0 : rd [v] 0 = v := rfl
  have l1 : (([v] : List Int).length : Int) = 1 := rfl
  rw [r0, l1, if_pos (by omega), if_pos (by omega), if_pos (by omega)]
  by_cases h : 0 ≤ v ∧ v ≤ hi
  · rw [if_pos h, if_neg (by omega), decide_eq_true h]
  · rw [if_neg h, decide_eq_false h]
theorem has_one (s : Int) (l : List S71) (v : Int) (hG : Good s l) (hI : Ev (fun k => impl_IsGraph.f k s l) true) : Ev (fun k => impl_hasNodes.f k s l [v]) (decide (0 ≤ v ∧ v < s)) := by
  have h8 := hG.2.1
  have h0 := hG.1
  have hw : wrap64 (s - 1) = s - 1 := by unfold wrap64; omega
  have e : decide (0 ≤ v ∧ v < s) = decide (0 ≤ v ∧ v ≤ s - 1) := by rw [decide_eq_decide]; omega
  rw [e]
  refine Ev.bind hI (Ev.congr (f := fun k => (impl_allWithin.f k [v] 0 (wrap64 (s - 1))).bind fun t => some t) (fun k => ?_) (Ev.bind (a := decide (0 ≤ v ∧ v ≤ s - 1)) ?_ (Ev.now _)))
  · rw [if_pos rfl]
  · rw [hw]
    exact one_within v (s - 1)
theorem has_not (s : Int) (l : List S71) (L : List Int) (hI : Ev (fun k => impl_IsGraph.f k s l) false) : Ev (fun k => impl_hasNodes.f k s l L) false := by
  refine Ev.bind hI (Ev.congr (fun k => ?_) (Ev.now _))
  rfl
theorem node_eq (s : Int) (l : List S71) (v : Int) (hG : Good s l) : spec_l2Node.f s l v = some (decide (0 ≤ v ∧ v < s)) := by
  have h8 := hG.2.1
  have h0 := hG.1
  have hw : wrap64 (s - 1) = s - 1 := by unfold wrap64; omega
  have e : decide (0 ≤ v ∧ v < s) = decide (0 ≤ v ∧ v ≤ s - 1) := by rw [decide_eq_decide]; omega
  unfold spec_l2Node.f
  rw [l1In_eq, hw, e]
  rfl
end Go.Proofs.Ytcjddikalgnhpaa.Gr
namespace Go.Proofs.Ytcjddikalgnhpaa.Gr
open Go.RowKit Go.Proofs.Ytcjddikalgnhpaa.P Go.Proofs.YtcjddikalgnhpaaW.PrintWords Go.Proofs.YtcjddikalgnhpaaW.PrintLast Go.Proofs.YtcjddikalgnhpaaW.PrintMore
/-- The other nodes. -/
def othersR (s v : Int) : List Int := ((List.range s.toNat).map Int.ofNat).filter fun z => z != v
theorem others_allR : ((List.range 9).all fun s => (List.range s).all fun v => (spec_l2Bits.f 20 s (wrap64 ((shl .i64 1 s) - 1)) == some ((List.range s).map Int.ofNat) && spec_l2Without.f 20 ((List.range s).map Int.ofNat) v == some (othersR s v)) &&
    impl_setOf.f 20 (Go.bits .andNot .i64 (wrap64 ((shl .i64 1 s) - 1)) (shl .i64 1 v)) == some (othersR s v)) = true := by kernel_rfl
theorem others_okR (s v : Int) (h8 : s ≤ 8) (hv0 : 0 ≤ v) (hvs : v < s) : (spec_l2Bits.f 20 s (wrap64 ((shl .i64 1 s) - 1)) = some ((List.range s.toNat).map Int.ofNat) ∧ spec_l2Without.f 20 ((List.range s.toNat).map Int.ofNat) v = some (othersR s v)) ∧
    impl_setOf.f 20 (Go.bits .andNot .i64 (wrap64 ((shl .i64 1 s) - 1)) (shl .i64 1 v)) = some (othersR s v) := by
  have h := List.all_eq_true.1 others_allR s.toNat (List.mem_range.2 (by omega))
  have h' := List.all_eq_true.1 h v.toNat (List.mem_range.2 (by omega))
  rw [Int.toNat_of_nonneg hv0, Int.toNat_of_nonneg (show 0 ≤ s by omega), Bool.and_eq_true, Bool.and_eq_true, beq_iff_eq, beq_iff_eq, beq_iff_eq] at h'
  exact h'
theorem others_memR (s v : Int) (x : Int) (h0 : 0 ≤ x) (h1 : x < (othersR s v).length) : 0 ≤ rd (othersR s v) x ∧ rd (othersR s v) x < s := by
  have hm : rd (othersR s v) x ∈ othersR s v := by
    unfold rd
    rw [List.getD_eq_getElem?_getD, List.getElem?_eq_getElem (by omega)]
    exact List.getElem_mem _
  have hm' := (List.mem_filter.1 hm).1
  obtain ⟨n, hn, e⟩ := List.mem_map.1 hm'
  have := List.mem_range.1 hn
  have e' : rd (othersR s v) x = (n : Int) := e.symm
  omega
theorem others_lenR (s v : Int) (h8 : s ≤ 8) : (othersR s v).length ≤ 8 := by
  have := List.length_filter_le (fun z => z != v) ((List.range s.toNat).map Int.ofNat)
  simp at this
  unfold othersR
  omega
theorem remove_ex (s : Int) (l : List S71) (v : Int) (hl : l.length ≤ 1048576) (hyes : Ev (fun k => impl_IsGraph.f k s l) true) : ∃ n es b, b = decide (0 ≤ v ∧ v < s) ∧ es.length ≤ 1048576 ∧ Ev (fun k => spec_RemoveNode.f k s l v) (n, es, b) ∧ Ev (fun k => impl_RemoveNode.f k s l v) (n, es, b) := by
  obtain ⟨b, hg, hS, hI⟩ := isGraph_both s l hl
  have hj : Ev (fun k => spec_RemoveNode.j0 k v true s l) (0, [], false) := by
    refine Ev.step (f := fun _ => some (0, [], false)) (fun k => ?_) (Ev.now _)
    simp only [spec_RemoveNode.j0, if_true]
  cases b with
  | false =>
    exfalso
    obtain ⟨K1, h1⟩ := hyes
    obtain ⟨K2, h2⟩ := hI
    dsimp only at h1 h2
    have e1 := h1 (K1 + K2) (by omega)
    rw [h2 (K1 + K2) (by omega)] at e1
    cases e1
  | true =>
    have hG := hg rfl
    have h8 := hG.2.1
    have h0 := hG.1
    have hH := has_one s l v hG hI
    have hnode := node_eq s l v hG
    by_cases hv : 0 ≤ v ∧ v < s
    · rw [decide_eq_true hv] at hH hnode
      obtain ⟨m, hm, hb, hN⟩ := net_ev s l hl hG
      obtain ⟨⟨o1, o2⟩, o3⟩ := others_okR s v h8 hv.1 hv.2
      have hlen := others_lenR s v h8
      have f1 : Ev (fun k => spec_l2All.f k s l) ((List.range s.toNat).map Int.ofNat) := by
        refine Ev.congr (f := fun k => (spec_l2Bits.f k s (wrap64 ((shl .i64 1 s) - 1))).bind fun t => some t) (fun k => ?_) (Ev.bind (Ev.of (fun k => spec_l2Bits.mono _ _ k) o1) (Ev.now _))
        unfold spec_l2All.f
        rw [if_pos h0]
      have f2 : Ev (fun k => spec_l2Without.f k ((List.range s.toNat).map Int.ofNat) v) (othersR s v) := Ev.of (fun k => spec_l2Without.mono _ _ k) o2
      have f3 : Ev (fun k => impl_setOf.f k (Go.bits .andNot .i64 (wrap64 ((shl .i64 1 s) - 1)) (shl .i64 1 v))) (othersR s v) := Ev.of (fun k => impl_setOf.mono _ k) o3
      refine ⟨((othersR s v).length : Int), pairs (nearAt l (othersR s v)) (othersR s v).length, true, (decide_eq_true hv).symm, by have := pairs_len (nearAt l (othersR s v)) (othersR s v).length (by omega); omega, ?_, ?_⟩
      · refine Ev.bind hS (Ev.congr (f := fun k => spec_RemoveNode.j0 k v false s l) (fun k => ?_) (Ev.step (f := fun k => (spec_l2All.f k s l).bind fun t310 => (spec_l2Without.f k t310 v).bind fun t313 => (spec_l2Induced.f k s l t313).bind fun bt316 => some (bt316.1, bt316.2, true)) (fun k => ?_) (Ev.bind f1 (Ev.bind f2 (Ev.bind (ind_spec s l hl (othersR s v) (by omega)) (Ev.now _))))))
        · rw [if_pos rfl, hnode]
          rfl
        · simp only [spec_RemoveNode.j0, Bool.false_eq_true, if_false]
      · refine Ev.bind hH (Ev.congr (f := fun k => (impl_netOf.f k s l).bind fun t340 => (impl_net_all.f t340).bind fun t344 => if 0 ≤ v then ((impl_setOf.f k (Go.bits .andNot .i64 t344 (shl .i64 1 v))).bind fun t345 => (impl_net_induced.f k t340 t345).bind fun bt348 => some (bt348.1, bt348.2, true)) else none) (fun k => ?_) (Ev.bind hN (Ev.congr (f := fun k => (impl_setOf.f k (Go.bits .andNot .i64 (wrap64 ((shl .i64 1 s) - 1)) (shl .i64 1 v))).bind fun t345 => (impl_net_induced.f k m t345).bind fun bt348 => some (bt348.1, bt348.2, true)) (fun k => ?_) (Ev.bind f3 (Ev.bind (ind_impl s l hG m hm hb (othersR s v) (by omega) (others_memR s v)) (Ev.now _))))))
        · rw [if_pos rfl]
        · unfold impl_net_all.f
          rw [Option.bind_some, if_pos hv.1, hm.1]
    · rw [decide_eq_false hv] at hH hnode
      refine ⟨0, [], false, (decide_eq_false hv).symm, by simp, ?_, ?_⟩
      · refine Ev.bind hS (Ev.congr (fun k => ?_) hj)
        rw [if_pos rfl, hnode]
        rfl
      · refine Ev.bind hH (Ev.congr (f := fun _ => some (0, [], false)) (fun k => ?_) (Ev.now _))
        rw [if_neg (by decide)]
end Go.Proofs.Ytcjddikalgnhpaa.Gr
namespace Go.Proofs.Ytcjddikalgnhpaa.Gr
open Go.RowKit Go.Proofs.Ytcjddikalgnhpaa.P Go.Proofs.YtcjddikalgnhpaaW.PrintWords Go.Proofs.YtcjddikalgnhpaaW.PrintLast
theorem good_yes (s : Int) (l : List S71) (hl : l.length ≤ 1048576) (hG : Good s l) (hO : Sorted l) : Ev (fun k => spec_l2Good.f k s l) true ∧ Ev (fun k => impl_IsGraph.f k s l) true := by
  have h0 := hG.1
  have h8 := hG.2.1
  have hw2 : wrap64 (s - 1) = s - 1 := w64 _ (by omega) (by omega)
  constructor
  · refine Cm.ev ?_
    unfold spec_l2Good.f
    refine Cm.up (fun k i (_ : Unit) => spec_l2Good.l0 k i s l) l.length (fun i _ => 0 ≤ i) _ ?_ 0 () (by omega) (by omega)
    rintro i - hi i0 ih
    by_cases h : i < (l.length : Int)
    · have hb := hG.2.2 i i0 h
      have hw : wrap64 (i + 1) = i + 1 := w64 _ (by omega) (by omega)
      have hw1 : wrap64 (i - 1) = i - 1 := w64 _ (by omega) (by omega)
      refine Cm.step (f := fun k => spec_l2Good.l0 k (i + 1) s l) (fun k => ?_) (ih () h (by omega))
      simp only [spec_l2Good.l0, l1In_eq, before_eq, hw, hw1, hw2, if_pos h, if_pos i0, Option.bind_some, decide_eq_true_eq]
      rw [if_pos ⟨hb.1, by omega⟩, if_pos ⟨by omega, by omega⟩, if_neg (by omega)]
      by_cases c4 : i > 0
      · rw [if_pos c4, if_pos (by omega), if_pos (by omega), if_pos (hO i c4 h)]
      · rw [if_neg c4]
    · refine Cm.step (f := fun _ => some true) (fun k => ?_) (Cm.now rfl)
      simp only [spec_l2Good.l0]
      rw [if_neg h, l1In_eq, Option.bind_some, decide_eq_true ⟨h0, h8⟩]
  · refine Cm.ev ?_
    unfold impl_IsGraph.f
    refine Cm.pos ⟨h0, h8⟩ (Cm.up (fun k i (_ : Unit) => impl_IsGraph.l0 k l s i) l.length (fun i _ => 0 ≤ i) _ ?_ 0 () (by omega) (by omega))
    rintro i - hi i0 ih
    by_cases h : i < (l.length : Int)
    · have hb := hG.2.2 i i0 h
      have hw : wrap64 (i + 1) = i + 1 := w64 _ (by omega) (by omega)
      have hw1 : wrap64 (i - 1) = i - 1 := w64 _ (by omega) (by omega)
      refine Cm.step (f := fun k => impl_IsGraph.l0 k l s (i + 1)) (fun k => ?_) (ih () h (by omega))
      simp only [impl_IsGraph.l0, hw, hw1, pcmp_iff, if_pos h, if_pos i0]
      rw [if_neg (by omega), if_neg (by omega), if_neg (by omega)]
      by_cases c4 : i > 0
      · rw [if_pos c4, if_neg (fun h2 => h2 (hO i c4 h))]
      · rw [if_neg c4]
    · refine Cm.step (f := fun _ => some true) (fun k => ?_) (Cm.now rfl)
      simp only [impl_IsGraph.l0]
      rw [if_neg h]
end Go.Proofs.Ytcjddikalgnhpaa.Gr
namespace Go.Proofs.Ytcjddikalgnhpaa.Gr
open Go.RowKit Go.Proofs.Ytcjddikalgnhpaa.P Go.Proofs.YtcjddikalgnhpaaW.PrintWords Go.Proofs.YtcjddikalgnhpaaW.PrintLast Go.Proofs.YtcjddikalgnhpaaW.PrintMore
/-- A code: bytes, not too many. -/
def Code8 (C : List Int) : Prop := C.length ≤ 65536 ∧ ∀ x ∈ C, 0 ≤ x ∧ x ≤ 255
theorem code_of {C : List Int} (hl : C.length ≤ 65536) (h : ∀ x ∈ C, (Lit.int .u8 x).wf = true) : Code8 C := ⟨hl, fun x hx => by
  have h2 := h x hx
  simp only [Lit.wf, Bool.and_eq_true, decide_eq_true_eq] at h2
  exact ⟨h2.1, h2.2⟩⟩
theorem rd8 {C : List Int} (hC : Code8 C) (a : Int) : 0 ≤ rd C a ∧ rd C a ≤ 255 := by
  unfold rd
  rw [List.getD_eq_getElem?_getD]
  cases h : C[a.toNat]? with
  | none => exact ⟨by decide, by decide⟩
  | some x => exact hC.2 x (List.mem_of_getElem? h)
theorem and255 (x : Int) : 0 ≤ Go.bits .and .u64 x 255 ∧ Go.bits .and .u64 x 255 ≤ 255 := by
  have h : (BitVec.ofInt IntKind.u64.bits x &&& BitVec.ofInt IntKind.u64.bits 255).toNat ≤ 255 := by
    rw [BitVec.toNat_and]
    exact Nat.and_le_right
  have hw : ∀ n : Int, IntKind.u64.wrap n = n % 18446744073709551616 := fun n => by simp [IntKind.wrap, IntKind.bits, IntKind.signed]
  rw [show Go.bits .and .u64 x 255 = IntKind.u64.wrap ((BitVec.ofInt IntKind.u64.bits x &&& BitVec.ofInt IntKind.u64.bits 255).toNat : Int) from rfl, hw]
  omega
theorem next_cm {C : List Int} (hC : Code8 C) (a s : Int) (h0 : 0 ≤ a) (h1 : a ≤ 1000000000) : Cm (fun _ => spec_l1Cur_next.f C a s) (fun r => 0 ≤ r.1 ∧ r.1 ≤ 255 ∧ r.2.1 = a + 1) := by
  have hr := rd8 hC a
  have hw : wrap64 (a + 1) = a + 1 := w64 _ (by omega) (by omega)
  unfold spec_l1Cur_next.f
  rw [hw]
  refine Cm.ite (fun _ => Cm.pos h0 (Cm.ite (fun _ => Cm.now ?_) (fun _ => Cm.now ?_))) (fun _ => Cm.ite (fun _ => Cm.now ?_) (fun _ => Cm.now ?_))
  · dsimp only
    rw [w64 _ (by omega) (by omega)]
    exact ⟨hr.1, hr.2, rfl⟩
  · dsimp only
    have hb := and255 ((IntKind.u64.wrap ((IntKind.u64.wrap ((IntKind.u64.wrap (s * 6364136223846793005)) + (IntKind.u64.wrap (wrap64 (rd C a))))) + 462197)) / 1099511627776)
    rw [w64 _ (by omega) (by omega)]
    exact ⟨hb.1, hb.2, rfl⟩
  · exact ⟨by dsimp only; omega, by dsimp only; omega, rfl⟩
  · dsimp only
    have hb := and255 ((IntKind.u64.wrap ((IntKind.u64.wrap (IntKind.u64.wrap (s * 6364136223846793005))) + 462197)) / 1099511627776)
    rw [w64 _ (by omega) (by omega)]
    exact ⟨hb.1, hb.2, rfl⟩
/-- A number that is picked. -/
theorem pick_cm {C : List Int} (hC : Code8 C) (a s n : Int) (h0 : 0 ≤ a) (h1 : a ≤ 100000000) (hn : 1 ≤ n) (hN : n ≤ 100000) : Cm (fun _ => spec_l1Cur_pick.f C a s n) (fun r => 0 ≤ r.1 ∧ r.1 < n ∧ a ≤ r.2.1 ∧ r.2.1 ≤ a + 2) := by
  unfold spec_l1Cur_pick.f
  refine Cm.ite (fun _ => Cm.now ⟨by dsimp only; omega, by dsimp only; omega, by dsimp only; omega, by dsimp only; omega⟩) (fun hc => Cm.bind (next_cm hC a s h0 (by omega)) ?_)
  rintro ⟨x, a1, s1⟩ ⟨x0, x1, x2⟩
  dsimp only at x0 x1 x2 ⊢
  have tm : ∀ y : Int, 0 ≤ y → 0 ≤ Int.tmod y n ∧ Int.tmod y n < n := fun y hy => by
    rw [Int.tmod_eq_emod_of_nonneg hy]
    exact ⟨Int.emod_nonneg _ (by omega), Int.emod_lt_of_pos _ (by omega)⟩
  refine Cm.ite (fun hb => Cm.bind (next_cm hC a1 s1 (by omega) (by omega)) ?_) (fun hb => Cm.neg (by omega) (Cm.now ?_))
  · rintro ⟨y, a2, s2⟩ ⟨y0, y1, y2⟩
    dsimp only at y0 y1 y2 ⊢
    refine Cm.neg (by omega) (Cm.now ?_)
    dsimp only
    rw [w64 (x * 256) (by omega) (by omega), w64 (x * 256 + y) (by omega) (by omega)]
    have := tm (x * 256 + y) (by omega)
    exact ⟨this.1, this.2, by omega, by omega⟩
  · have := tm x x0
    dsimp only
    exact ⟨this.1, this.2, by omega, by omega⟩
theorem one_cm {C : List Int} (hC : Code8 C) (a s n : Int) (h0 : 0 ≤ a) (h1 : a ≤ 100000000) (hn : 1 ≤ n) (hN : n ≤ 100000) : Cm (fun _ => spec_l1Cur_one.f C a s n) (fun r => a ≤ r.2.1 ∧ r.2.1 ≤ a + 2) := by
  unfold spec_l1Cur_one.f
  refine Cm.bind (pick_cm hC a s n h0 h1 hn hN) ?_
  rintro ⟨x, a1, s1⟩ ⟨_, _, x2, x3⟩
  exact Cm.now ⟨x2, x3⟩
theorem among_cm {C : List Int} (hC : Code8 C) (a s : Int) (l : List Int) (h0 : 0 ≤ a) (h1 : a ≤ 100000000) (hn : 1 ≤ l.length) (hN : l.length ≤ 1000) : Cm (fun _ => spec_l1Cur_among.f C a s l) (fun r => r.1 ∈ l ∧ a ≤ r.2.1 ∧ r.2.1 ≤ a + 2) := by
  unfold spec_l1Cur_among.f
  refine Cm.bind (pick_cm hC a s l.length h0 h1 (by omega) (by omega)) ?_
  rintro ⟨x, a1, s1⟩ ⟨x0, x1, x2, x3⟩
  dsimp only at x0 x1 x2 x3 ⊢
  exact Cm.pos x0 (Cm.pos x1 (Cm.now ⟨rd_mem l x x0 x1, x2, x3⟩))
theorem marred_cm {C : List Int} (hC : Code8 C) (a s n : Int) (l : List S71) (h0 : 0 ≤ a) (h1 : a ≤ 90000000) (hl : l.length ≤ 1000) : Cm (fun _ => spec_l1Cur_marred.f C a s n l) (fun r => r.2.1.length ≤ l.length + 1 ∧ a ≤ r.2.2.1 ∧ r.2.2.1 ≤ a + 6) := by
  unfold spec_l1Cur_marred.f
  refine Cm.bind (pick_cm hC a s 50 h0 (by omega) (by omega) (by omega)) ?_
  rintro ⟨x, a1, s1⟩ ⟨x0, x1, x2, x3⟩
  dsimp only at x0 x1 x2 x3 ⊢
  refine Cm.ite (fun _ => Cm.bind (among_cm hC a1 s1 _ (by omega) (by omega) (by decide) (by decide)) ?_) (fun _ => Cm.ite (fun _ => Cm.bind (pick_cm hC a1 s1 4 (by omega) (by omega) (by omega) (by omega)) ?_) (fun _ => Cm.ite (fun _ => Cm.ite (fun hp => Cm.bind (pick_cm hC a1 s1 l.length (by omega) (by omega) (by omega) (by omega)) ?_) (fun _ => Cm.now ⟨by dsimp only; omega, by dsimp only; omega, by dsimp only; omega⟩)) (fun _ => Cm.now ⟨by dsimp only; omega, by dsimp only; omega, by dsimp only; omega⟩)))
  · rintro ⟨y, a2, s2⟩ ⟨_, y1, y2⟩
    dsimp only at y1 y2 ⊢
    exact Cm.now ⟨by dsimp only; omega, by dsimp only; omega, by dsimp only; omega⟩
  · rintro ⟨y, a2, s2⟩ ⟨_, _, y1, y2⟩
    dsimp only at y1 y2 ⊢
    refine Cm.bind (pick_cm hC a2 s2 9 (by omega) (by omega) (by omega) (by omega)) ?_
    rintro ⟨z, a3, s3⟩ ⟨_, _, z1, z2⟩
    dsimp only at z1 z2 ⊢
    exact Cm.pos (by omega) (Cm.now ⟨by simp, by dsimp only; omega, by dsimp only; omega⟩)
  · rintro ⟨y, a2, s2⟩ ⟨w0, w1, y1, y2⟩
    dsimp only at w0 w1 y1 y2 ⊢
    exact Cm.pos w0 (Cm.pos w1 (Cm.pos (by omega) (Cm.now ⟨by simp, by dsimp only; omega, by dsimp only; omega⟩)))
/-- A pair more, wherever it is put. -/
theorem putDr_len (l : List S71) (x y : Int) (hl : l.length ≤ 10000) : Cm (fun k => spec_l2Put.f k l x y) (fun r => r.length = l.length + 1 ∧ ∀ e ∈ r, e = ⟨x, y⟩ ∨ e ∈ l) := by
  unfold spec_l2Put.f
  have fin : ∀ i : Int, 0 ≤ i → i ≤ l.length → (l.take i.toNat ++ [(⟨x, y⟩ : S71)] ++ l.drop i.toNat).length = l.length + 1 ∧ ∀ e ∈ l.take i.toNat ++ [(⟨x, y⟩ : S71)] ++ l.drop i.toNat, e = ⟨x, y⟩ ∨ e ∈ l := by
    intro i h0 h1
    refine ⟨by rw [List.length_append, List.length_append, List.length_take, List.length_drop, List.length_singleton]; omega, fun e he => ?_⟩
    rcases List.mem_append.1 he with he | he
    · rcases List.mem_append.1 he with he | he
      · exact .inr (List.mem_of_mem_take he)
      · exact .inl (List.mem_singleton.1 he)
    · exact .inr (List.mem_of_mem_drop he)
  refine Cm.up (fun k i (_ : Unit) => spec_l2Put.l0 k l i x y) l.length (fun i _ => 0 ≤ i) _ ?_ 0 () (by omega) (by omega)
  rintro i - hi h0 ih
  by_cases h : i < l.length
  · cases hb : decide ((rd_T71 l i).f0 < x ∨ ((rd_T71 l i).f0 = x ∧ (rd_T71 l i).f1 < y)) with
    | true =>
      exact Cm.step (fun k => by simp (disch := omega) only [spec_l2Put.l0, if_pos h, if_pos h0, before_eq, hb, Option.bind_some, if_true, w64 (i + 1)]; try rfl) (ih () h (by omega))
    | false =>
      exact Cm.step (fun k => by simp (disch := omega) only [spec_l2Put.l0, if_pos h, if_pos h0, before_eq, hb, Bool.false_eq_true, if_false, Option.bind_some, List.nil_append, List.length_nil, Nat.zero_add, List.length_append, List.length_take, List.length_drop, List.length_singleton, if_pos]; try rfl) (Cm.now (fin i h0 hi))
  · exact Cm.step (fun k => by simp (disch := omega) only [spec_l2Put.l0, Option.bind_some, if_neg h, if_pos h0, List.nil_append, List.length_nil, Nat.zero_add, List.length_append, List.length_take, List.length_drop, List.length_singleton, if_pos]; try rfl) (Cm.now (fin i h0 hi))
theorem pathDr_len (n : Int) (h0 : 0 ≤ n) (h8 : n ≤ 8) : Cm (fun k => spec_l2Path.f k n) (fun r => r.2.length ≤ 8) := by
  unfold spec_l2Path.f
  refine Cm.up (fun k i (z : List S71) => spec_l2Path.l0 k n i n z) (n + 1) (fun i z => 0 ≤ i ∧ (z.length : Int) ≤ i ∧ (z.length : Int) ≤ 8) _ ?_ 0 [] (by omega) ⟨by omega, by simp, by simp⟩
  rintro i z hi ⟨i0, hl, hl8⟩ ih
  have hw : wrap64 (i + 1) = i + 1 := w64 _ (by omega) (by omega)
  by_cases h : i + 1 < n
  · refine Cm.step (fun k => by simp only [spec_l2Path.l0, hw, if_pos h]; try rfl) (Cm.pos (by omega) (ih _ (by omega) ⟨by omega, ?_, ?_⟩)) <;> (rw [List.length_append, List.length_singleton]; omega)
  · exact Cm.step (fun k => by simp only [spec_l2Path.l0, hw, if_neg h]; try rfl) (Cm.now (by dsimp only; omega))
theorem cycle_len (n : Int) (h0 : 0 ≤ n) (h8 : n ≤ 8) : Cm (fun k => spec_l2Cycle.f k n) (fun r => r.2.length ≤ 9) := by
  unfold spec_l2Cycle.f
  refine Cm.bind (pathDr_len n h0 h8) ?_
  rintro ⟨m, l⟩ hl
  dsimp only at hl ⊢
  refine Cm.bind (putDr_len l _ _ (by omega)) ?_
  rintro r ⟨hr, _⟩
  exact Cm.now (by dsimp only; omega)
theorem complete_len (n : Int) (h0 : 0 ≤ n) (h8 : n ≤ 8) : Cm (fun k => spec_l2Complete.f k n) (fun r => r.2.length ≤ 64) := by
  unfold spec_l2Complete.f
  refine Cm.up (fun k i (z : List S71) => spec_l2Complete.l0 k n i n z) n (fun i z => 0 ≤ i ∧ (z.length : Int) ≤ 8 * i) _ ?_ 0 [] (by omega) ⟨by omega, by simp⟩
  rintro i z hi ⟨i0, hl⟩ ih
  have hw : wrap64 (i + 1) = i + 1 := w64 _ (by omega) (by omega)
  by_cases h : i < n
  · refine Cm.step (fun k => by simp only [spec_l2Complete.l0, hw, if_pos h]; try rfl) ?_
    refine Cm.up (fun k j (z : List S71) => spec_l2Complete.l1 k n i j n z) n (fun j z => i < j ∧ (z.length : Int) ≤ 8 * i + (j - i)) _ ?_ (i + 1) z (by omega) ⟨by omega, by omega⟩
    rintro j z hj ⟨j0, hlj⟩ ih2
    have hwj : wrap64 (j + 1) = j + 1 := w64 _ (by omega) (by omega)
    by_cases hc : j < n
    · refine Cm.step (fun k => by simp only [spec_l2Complete.l1, hwj, if_pos hc]; try rfl) (Cm.pos (by omega) (ih2 _ hc ⟨by omega, ?_⟩))
      rw [List.length_append, List.length_singleton]
      omega
    · exact Cm.step (fun k => by simp only [spec_l2Complete.l1, hw, if_neg hc]; try rfl) (ih z h ⟨by omega, by omega⟩)
  · exact Cm.step (fun k => by simp only [spec_l2Complete.l0, if_neg h]; try rfl) (Cm.now (by dsimp only; omega))
theorem least_cm (a b : Int) : spec_l1Least.f a b = some (min a b) := by
  unfold spec_l1Least.f
  by_cases h : a < b
  · rw [if_pos h, show min a b = a by omega]
  · rw [if_neg h, show min a b = b by omega]
theorem most_cm (a b : Int) : spec_l1Most.f a b = some (max a b) := by
  unfold spec_l1Most.f
  by_cases h : a > b
  · rw [if_pos h, show max a b = a by omega]
  · rw [if_neg h, show max a b = b by omega]
/-- A few pairs, and not far on in the code. -/
def Few (A : Int) (r : Int × List S71 × Int × Int) : Prop := r.2.1.length ≤ 200 ∧ A ≤ r.2.2.1 ∧ r.2.2.1 ≤ A + 400
theorem some_j1 {C : List Int} (hC : Code8 C) (A a s m x : Int) (m0 : 0 ≤ m) (m8 : m ≤ 8) (x0 : 0 ≤ x) (x8 : x ≤ 8) (hA : 0 ≤ A) (hA2 : A ≤ a) (h1 : a ≤ A + 10) (hB : A ≤ 80000000) : Cm (fun k => spec_l1Cur_someGraph.j1 k m x C a s) (Few A) := by
  refine Cm.step (fun k => by simp only [spec_l1Cur_someGraph.j1, least_cm, Option.bind_some]; try rfl) ?_
  obtain ⟨n, hn⟩ : ∃ n, n = min x m := ⟨_, rfl⟩
  rw [← hn]
  have n0 : 0 ≤ n := by omega
  have n8 : n ≤ 8 := by omega
  clear hn
  refine Cm.bind (pick_cm hC a s 8 (by omega) (by omega) (by omega) (by omega)) ?_
  rintro ⟨q, a1, s1⟩ ⟨_, _, q1, q2⟩
  dsimp only at q1 q2 ⊢
  have fin : ∀ (n' : Int) (l : List S71), l.length ≤ 100 → Cm (fun _ => (spec_l1Cur_marred.f C a1 s1 n' l).bind fun bt => some (bt.1, bt.2.1, bt.2.2.1, bt.2.2.2)) (Few A) := fun n' l hl => by
    refine Cm.bind (marred_cm hC a1 s1 n' l (by omega) (by omega) (by omega)) ?_
    rintro ⟨u, v, w, z⟩ ⟨v1, v2, v3⟩
    exact Cm.now ⟨by dsimp only at v1 ⊢; omega, by dsimp only at v2 ⊢; omega, by dsimp only at v3 ⊢; omega⟩
  refine Cm.ite (fun _ => Cm.bind (pathDr_len n n0 n8) ?_) (fun _ => Cm.ite (fun _ => Cm.ite (fun _ => Cm.bind (cycle_len n n0 n8) ?_) (fun _ => fin n [] (by simp))) (fun _ => Cm.ite (fun _ => Cm.bind (complete_len n n0 n8) ?_) (fun _ => Cm.bind (among_cm hC a1 s1 _ (by omega) (by omega) (by decide) (by decide)) ?_)))
  · rintro ⟨u, v⟩ hv
    dsimp only at hv ⊢
    exact fin u v (by omega)
  · rintro ⟨u, v⟩ hv
    dsimp only at hv ⊢
    exact fin u v (by omega)
  · rintro ⟨u, v⟩ hv
    dsimp only at hv ⊢
    exact fin u v (by omega)
  · rintro ⟨de, a2, s2⟩ ⟨hde, d1, d2⟩
    dsimp only at hde d1 d2 ⊢
    have de0 : 1 ≤ de ∧ de ≤ 6 := by
      simp only [List.mem_cons, List.not_mem_nil, or_false] at hde
      omega
    refine Cm.bind (one_cm hC a2 s2 6 (by omega) (by omega) (by omega) (by omega)) ?_
    rintro ⟨lo, a3, s3⟩ ⟨l1, l2⟩
    dsimp only at l1 l2 ⊢
    refine Cm.up (fun k i (z : List S71 × Int × Int) => spec_l1Cur_someGraph.l0 k n de lo i C z.2.1 z.2.2 n z.1) n (fun i z => 0 ≤ i ∧ (z.1.length : Int) ≤ 9 * i ∧ A ≤ z.2.1 ∧ z.2.1 ≤ A + 20 + 20 * i) _ ?_ 0 ([], a3, s3) (by omega) ⟨by omega, by simp, by dsimp only; omega, by dsimp only; omega⟩
    rintro i ⟨z, b, t⟩ hi ⟨i0, hl, hb0, hb1⟩ ih
    dsimp only at hl hb0 hb1 ⊢
    have hw : wrap64 (i + 1) = i + 1 := w64 _ (by omega) (by omega)
    by_cases h : i < n
    · refine Cm.step (fun k => by simp only [spec_l1Cur_someGraph.l0, hw, if_pos h]; try rfl) ?_
      refine Cm.up (fun k j (z : List S71 × Int × Int) => spec_l1Cur_someGraph.l1 k n de lo i j C z.2.1 z.2.2 n z.1) n (fun j z => i < j ∧ (z.1.length : Int) ≤ 9 * i + (j - i - 1) ∧ A ≤ z.2.1 ∧ z.2.1 ≤ A + 20 + 20 * i + 2 * (j - i - 1)) _ ?_ (i + 1) (z, b, t) (by omega) ⟨by omega, by dsimp only; omega, by dsimp only; omega, by dsimp only; omega⟩
      rintro j ⟨z, b, t⟩ hj ⟨j0, hlj, hbj0, hbj1⟩ ih2
      dsimp only at hlj hbj0 hbj1 ⊢
      have hwj : wrap64 (j + 1) = j + 1 := w64 _ (by omega) (by omega)
      by_cases hc : j < n
      · refine Cm.step (fun k => by simp only [spec_l1Cur_someGraph.l1, hwj, if_pos hc]; try rfl) (Cm.bind (pick_cm hC b t de (by omega) (by omega) (by omega) (by omega)) ?_)
        rintro ⟨p, b2, t2⟩ ⟨_, _, p1, p2⟩
        dsimp only at p1 p2 ⊢
        refine Cm.ite (fun _ => Cm.bind (putDr_len z _ _ (by omega)) ?_) (fun _ => ih2 (z, b2, t2) hc ⟨by omega, by dsimp only; omega, by dsimp only; omega, by dsimp only; omega⟩)
        rintro r ⟨hr, _⟩
        exact ih2 (r, b2, t2) hc ⟨by omega, by dsimp only; omega, by dsimp only; omega, by dsimp only; omega⟩
      · have go : ∀ (r : List S71) (b2 t2 : Int), r.length ≤ z.length + 1 → b ≤ b2 → b2 ≤ b + 2 → Cm (fun k => spec_l1Cur_someGraph.l0 k n de lo (i + 1) C b2 t2 n r) (Few A) := fun r b2 t2 h1 h2 h3 => ih (r, b2, t2) h ⟨by omega, by dsimp only; omega, by dsimp only; omega, by dsimp only; omega⟩
        refine Cm.step (fun k => by simp only [spec_l1Cur_someGraph.l1, hw, if_neg hc, most_cm, Option.bind_some]; try rfl) (Cm.bind (pick_cm hC b t (max i 1) (by omega) (by omega) (by omega) (by omega)) ?_)
        rintro ⟨p, b2, t2⟩ ⟨_, _, p1, p2⟩
        dsimp only at p1 p2 ⊢
        refine Cm.ite (fun _ => Cm.ite (fun _ => go z b2 t2 (by omega) p1 p2) (fun _ => Cm.bindE (near_ev n z i p (by omega)) (Cm.ite (fun _ => go z b2 t2 (by omega) p1 p2) (fun _ => Cm.bind (putDr_len z _ _ (by omega)) ?_)))) (fun _ => go z b2 t2 (by omega) p1 p2)
        rintro r ⟨hr, _⟩
        exact go r b2 t2 (by omega) p1 p2
    · refine Cm.step (fun k => by simp only [spec_l1Cur_someGraph.l0, if_neg h]; try rfl) (Cm.bind (marred_cm hC b t n z (by omega) (by omega) (by omega)) ?_)
      rintro ⟨u, v, w, y⟩ ⟨v1, v2, v3⟩
      exact Cm.now ⟨by dsimp only at v1 ⊢; omega, by dsimp only at v2 ⊢; omega, by dsimp only at v3 ⊢; omega⟩
theorem someDr_cm {C : List Int} (hC : Code8 C) (a s m : Int) (m0 : 0 ≤ m) (m8 : m ≤ 8) (h0 : 0 ≤ a) (h1 : a ≤ 80000000) : Cm (fun k => spec_l1Cur_someGraph.f k C a s m) (Few a) := by
  unfold spec_l1Cur_someGraph.f
  refine Cm.bind (among_cm hC a s _ h0 (by omega) (by decide) (by decide)) ?_
  rintro ⟨x, a1, s1⟩ ⟨hx, x1, x2⟩
  dsimp only at hx x1 x2 ⊢
  have hx8 : 0 ≤ x ∧ x ≤ 8 := by
    simp only [List.mem_cons, List.not_mem_nil, or_false] at hx
    omega
  have no : ∀ a2 s2, a ≤ a2 → a2 ≤ a + 4 → Cm (fun k => spec_l1Cur_someGraph.j0 k m x false C a2 s2) (Few a) := fun a2 s2 g0 g1 =>
    Cm.step (fun k => by simp only [spec_l1Cur_someGraph.j0, Bool.false_eq_true, if_false]; try rfl) (some_j1 hC a a2 s2 m x m0 m8 hx8.1 hx8.2 h0 g0 (by omega) h1)
  refine Cm.ite (fun _ => Cm.bind (one_cm hC a1 s1 4 (by omega) (by omega) (by omega) (by omega)) ?_) (fun _ => no a1 s1 x1 (by omega))
  rintro ⟨b, a2, s2⟩ ⟨b1, b2⟩
  dsimp only at b1 b2 ⊢
  cases b with
  | false => exact no a2 s2 (by omega) (by omega)
  | true =>
    refine Cm.step (fun k => by simp only [spec_l1Cur_someGraph.j0, if_true]; try rfl) (Cm.bind (pick_cm hC a2 s2 2 (by omega) (by omega) (by omega) (by omega)) ?_)
    rintro ⟨y, a3, s3⟩ ⟨y0, y1, y2, y3⟩
    dsimp only at y0 y1 y2 y3 ⊢
    rw [w64 (7 + y) (by omega) (by omega)]
    exact some_j1 hC a a3 s3 m (7 + y) m0 m8 (by omega) (by omega) h0 (by omega) (by omega) h1
end Go.Proofs.Ytcjddikalgnhpaa.Gr
namespace Go.Proofs.Ytcjddikalgnhpaa.Pure
open Go.RowKit Go.Proofs.Ytcjddikalgnhpaa.P Go.Proofs.YtcjddikalgnhpaaW.PrintWords Go.Proofs.YtcjddikalgnhpaaW.PrintLast Go.Proofs.YtcjddikalgnhpaaW.PrintMore Go.Proofs.Ytcjddikalgnhpaa.Gr
theorem rGraph_same (s : Int) (l : List S71) (hl : l.length ≤ 1048576) : Ev (fun k => laws_rGraph.f k s l s l) true := by
  refine Cm.ev ?_
  unfold laws_rGraph.f
  refine Cm.pos rfl ?_
  rw [show ((l.length : Int) != (l.length : Int)) = false from by simp]
  refine Cm.step (fun k => by simp only [laws_rGraph.j0, Bool.false_eq_true, if_false]; try rfl) ?_
  refine Cm.up (fun k i (_ : Unit) => laws_rGraph.l0 k i s l s l) l.length (fun i _ => 0 ≤ i) _ ?_ 0 () (by omega) (by omega)
  rintro i - hi i0 ih
  by_cases h : i < l.length
  · exact Cm.step (fun k => by simp (disch := omega) only [laws_rGraph.l0, if_pos h, if_pos i0, beq_self_eq_true, Bool.not_true, Bool.or_self, Bool.false_eq_true, if_false, w64 (i + 1)]; try rfl) (ih () h (by omega))
  · exact Cm.step (fun k => by simp only [laws_rGraph.l0, if_neg h]; try rfl) (Cm.now rfl)
theorem drawPath_cm {C : List Int} (hC : Code8 C) : Cm (fun _ => spec_DrawPathGraph.f C) (fun n => n ∈ ([0, 1, 2, 3, 5, 8, 9, (-1), 4, 6, 7] : List Int)) := by
  unfold spec_DrawPathGraph.f spec_DrawPathGraph.st
  refine Cm.bind (P := fun r => r.1 ∈ ([0, 1, 2, 3, 5, 8, 9, (-1), 4, 6, 7] : List Int)) ?_ (fun r h => Cm.now h)
  refine Cm.bind (among_cm hC 0 0 _ (by omega) (by omega) (by decide) (by decide)) ?_
  rintro ⟨x, a1, s1⟩ ⟨hx, _, _⟩
  exact Cm.now hx
theorem drawPut_cm {C : List Int} (hC : Code8 C) : Cm (fun k => spec_DrawPutBeside.f k C) (fun r => r.2.1.length ≤ 200 ∧ r.2.2.2.length ≤ 200) := by
  unfold spec_DrawPutBeside.f spec_DrawPutBeside.st
  refine Cm.bind (P := fun r => r.2.1.length ≤ 200 ∧ r.2.2.2.1.length ≤ 200) ?_ (fun r h => Cm.now h)
  refine Cm.bind (someDr_cm hC 0 0 5 (by omega) (by omega) (by omega) (by omega)) ?_
  rintro ⟨n, l, a, s⟩ ⟨hl, a0, a1⟩
  dsimp only at hl a0 a1 ⊢
  refine Cm.bind (someDr_cm hC a s 4 (by omega) (by omega) (by omega) (by omega)) ?_
  rintro ⟨n2, l2, a2, s2⟩ ⟨hl2, _, _⟩
  exact Cm.now ⟨hl, hl2⟩
/-- The families, for one number of nodes. -/
def famOk (n : Int) : Bool :=
  match impl_PathGraph.f 60 n, spec_PathGraph.f 60 n, impl_CycleGraph.f 60 n, spec_CycleGraph.f 60 n, impl_CompleteGraph.f 60 n, spec_CompleteGraph.f 60 n with
  | some p, some p', some c, some c', some q, some q' =>
    (p.2.2 == p'.2.2 && laws_rGraph.f 60 p.1 p.2.1 p'.1 p'.2.1 == some true) && (c.2.2 == c'.2.2 && laws_rGraph.f 60 c.1 c.2.1 c'.1 c'.2.1 == some true) && (q.2.2 == q'.2.2 && q.2.2 == p.2.2 && laws_rGraph.f 60 q.1 q.2.1 q'.1 q'.2.1 == some true) &&
    (!(p.2.2 && decide (n > 0)) || (impl_RadiusOf.f 60 p.1 p.2.1 == some (Int.tdiv n 2, true) && impl_RadiusOf.f 60 q.1 q.2.1 == some (if n > 1 then 1 else 0, true))) && (!c.2.2 || impl_RadiusOf.f 60 c.1 c.2.1 == some (Int.tdiv n 2, true))
  | _, _, _, _, _, _ => false
theorem fam_all : (([0, 1, 2, 3, 5, 8, 9, (-1), 4, 6, 7] : List Int).all famOk) = true := by kernel_rfl
theorem fam {n : Int} (hn : n ∈ ([0, 1, 2, 3, 5, 8, 9, (-1), 4, 6, 7] : List Int)) : ∃ p p' c c' q q', impl_PathGraph.f 60 n = some p ∧ spec_PathGraph.f 60 n = some p' ∧ impl_CycleGraph.f 60 n = some c ∧ spec_CycleGraph.f 60 n = some c' ∧ impl_CompleteGraph.f 60 n = some q ∧ spec_CompleteGraph.f 60 n = some q' ∧
    (p.2.2 = p'.2.2 ∧ laws_rGraph.f 60 p.1 p.2.1 p'.1 p'.2.1 = some true) ∧ (c.2.2 = c'.2.2 ∧ laws_rGraph.f 60 c.1 c.2.1 c'.1 c'.2.1 = some true) ∧ ((q.2.2 = q'.2.2 ∧ q.2.2 = p.2.2) ∧ laws_rGraph.f 60 q.1 q.2.1 q'.1 q'.2.1 = some true) ∧
    ((p.2.2 && decide (n > 0)) = true → impl_RadiusOf.f 60 p.1 p.2.1 = some (Int.tdiv n 2, true) ∧ impl_RadiusOf.f 60 q.1 q.2.1 = some (if n > 1 then 1 else 0, true)) ∧ (c.2.2 = true → impl_RadiusOf.f 60 c.1 c.2.1 = some (Int.tdiv n 2, true)) := by
  have h := List.all_eq_true.1 fam_all n hn
  unfold famOk at h
  split at h
  · rename_i p p' c c' q q' e1 e2 e3 e4 e5 e6
    simp only [Bool.and_eq_true, beq_iff_eq, Bool.or_eq_true, Bool.not_eq_true'] at h
    obtain ⟨⟨⟨⟨h1, h2⟩, h3⟩, h4⟩, h5⟩ := h
    refine ⟨p, p', c, c', q, q', e1, e2, e3, e4, e5, e6, h1, h2, h3, fun hp => ?_, fun hc => ?_⟩
    · rcases h4 with h4 | h4
      · rw [hp] at h4; cases h4
      · exact h4
    · rcases h5 with h5 | h5
      · rw [hc] at h5; cases h5
      · exact h5
  · cases h
theorem FnFamilies : laws_FnFamilies.Pure := by
  intro C _ hx
  refine Ev.rounds (Cm.ev ?_)
  unfold laws_FnFamilies.f laws_rBig.f
  refine Cm.bindE (Ev.now _) (Cm.ite (fun _ => Cm.now rfl) (fun h => ?_))
  have hU : Code8 C := code_of (by rw [decide_eq_true_eq] at h; omega) hx
  have nb : ∀ q : Bool, ¬ (q != q) = true := fun q => by cases q <;> decide
  refine Cm.bind (drawPath_cm hU) ?_
  intro n hn
  obtain ⟨⟨ps, pl, pb⟩, ⟨ps', pl', pb'⟩, ⟨cs, cl_, cb⟩, ⟨cs', cl', cb'⟩, ⟨qs, ql, qb⟩, ⟨qs', ql', qb'⟩, e1, e2, e3, e4, e5, e6, ⟨h1, g1⟩, ⟨h2, g2⟩, ⟨⟨h3, h3'⟩, g3⟩, hr, hc⟩ := fam hn
  dsimp only at h1 g1 h2 g2 h3 h3' g3 hr hc
  subst h1 h2 h3
  have hw : wrap64 (Int.tdiv n 2) = Int.tdiv n 2 := by
    have h2 := (show ∀ x ∈ ([0, 1, 2, 3, 5, 8, 9, (-1), 4, 6, 7] : List Int), -9223372036854775808 ≤ Int.tdiv x 2 ∧ Int.tdiv x 2 ≤ 9223372036854775807 by decide) n hn
    exact w64 _ h2.1 h2.2
  refine Cm.bindE (Ev.of (fun k => impl_PathGraph.mono _ k) e1) (Cm.bindE (Ev.of (fun k => spec_PathGraph.mono _ k) e2) (Cm.neg (nb _) (Cm.bindE (Ev.of (fun k => laws_rGraph.mono _ _ _ _ k) g1) ?_)))
  refine Cm.step (fun k => by simp only [laws_FnFamilies.j0, Bool.not_true, Bool.false_eq_true, if_false]; try rfl) ?_
  refine Cm.bindE (Ev.of (fun k => impl_CycleGraph.mono _ k) e3) (Cm.bindE (Ev.of (fun k => spec_CycleGraph.mono _ k) e4) (Cm.neg (nb _) (Cm.bindE (Ev.of (fun k => laws_rGraph.mono _ _ _ _ k) g2) ?_)))
  refine Cm.step (fun k => by simp only [laws_FnFamilies.j1, Bool.not_true, Bool.false_eq_true, if_false]; try rfl) ?_
  refine Cm.bindE (Ev.of (fun k => impl_CompleteGraph.mono _ k) e5) (Cm.bindE (Ev.of (fun k => spec_CompleteGraph.mono _ k) e6) (Cm.neg (nb _) (Cm.neg (by dsimp only; rw [h3']; exact nb _) (Cm.bindE (Ev.of (fun k => laws_rGraph.mono _ _ _ _ k) g3) ?_))))
  have fin : Cm (fun k => laws_FnFamilies.j5 k C) (fun r => r = true) := by
    refine Cm.step (fun k => by simp only [laws_FnFamilies.j5]; try rfl) (Cm.bind (drawPut_cm hU) ?_)
    rintro ⟨s, l, t, m⟩ ⟨hl, hm⟩
    dsimp only at hl hm ⊢
    obtain ⟨N, es, b, hb, hes, E1, E2⟩ := beside_ex s t l m (by omega) (by omega)
    refine Cm.bindE E2 (Cm.bindE E1 (Cm.neg (nb b) (Cm.bindE (rGraph_same N es (by omega)) ?_)))
    refine Cm.step (fun k => by simp only [laws_FnFamilies.j6, Bool.not_true, Bool.false_eq_true, if_false]; try rfl) (Cm.ite (fun hbt => ?_) (fun _ => Cm.now rfl))
    obtain ⟨⟨G1, O1, I1⟩, ⟨G2, O2, I2⟩, h8, rfl, rfl⟩ := hb hbt
    obtain ⟨G3, O3⟩ := good_beside h8 G1 O1 G2 O2
    have I3 := (good_yes (s + t) (l ++ m.map (mv s)) (by omega) G3 O3).2
    obtain ⟨N2, es2, b2, hb2, hes2, E3, E4⟩ := remove_ex (s + t) (l ++ m.map (mv s)) 0 (by omega) I3
    have hp1 := parts_len (l := l) G1.2.1
    have hp2 := parts_len (l := m) G2.2.1
    have hv1 : ((V s).filter (rep l)).length ≤ s.toNat := VF_len
    have hv2 : ((V t).filter (rep m)).length ≤ t.toNat := VF_len
    have a1 := G1.1
    have a2 := G2.1
    refine Cm.bindE (parts_of s l (by omega) G1 I1) (Cm.bindE (parts_of t m (by omega) G2 I2) (Cm.bindE (parts_of (s + t) _ (by omega) G3 I3) (Cm.bindE E4 (Cm.bindE E3 (Cm.neg (nb b2) (Cm.bindE (rGraph_same N2 es2 hes2) (Cm.pos rfl (Cm.neg ?_ (Cm.pos rfl (Cm.pos rfl (Cm.pos rfl (Cm.now ?_))))))))))))
    · rw [hb2]
      have : decide ((0 : Int) ≤ 0 ∧ 0 < s + t) = decide (s + t > 0) := by rw [decide_eq_decide]; omega
      rw [this]
      exact nb _
    · dsimp only
      rw [parts_beside h8 G1 G2, w64 _ (by omega) (by omega), beq_iff_eq]
      omega
  have j4 : Cm (fun k => laws_FnFamilies.j4 k C n cb cs cl_) (fun r => r = true) := by
    refine Cm.step (fun k => by simp only [laws_FnFamilies.j4, hw]; try rfl) (Cm.ite (fun hcb => ?_) (fun _ => fin))
    exact Cm.bindE (Ev.of (fun k => impl_RadiusOf.mono _ _ k) (hc hcb)) (Cm.pos rfl (Cm.pos rfl fin))
  have j3 : ∀ b3 : Bool, b3 = (pb && decide (n > 0)) → Cm (fun k => laws_FnFamilies.j3 k C n cb b3 ps pl cs cl_ qs ql) (fun r => r = true) := by
    intro b3 hb3
    refine Cm.step (fun k => by simp only [laws_FnFamilies.j3, hw]; try rfl) (Cm.ite (fun hbt => ?_) (fun _ => j4))
    obtain ⟨r1, r2⟩ := hr (hb3.symm.trans hbt)
    refine Cm.bindE (Ev.of (fun k => impl_RadiusOf.mono _ _ k) r1) (Cm.bindE (Ev.of (fun k => impl_RadiusOf.mono _ _ k) r2) (Cm.ite (fun hn1 => ?_) (fun hn1 => ?_)))
    · exact Cm.pos rfl (Cm.pos rfl (Cm.pos rfl (Cm.pos (if_pos hn1) j4)))
    · exact Cm.pos rfl (Cm.pos rfl (Cm.pos rfl (Cm.pos (if_neg hn1) j4)))
  refine Cm.step (fun k => by simp only [laws_FnFamilies.j2, Bool.not_true, Bool.false_eq_true, if_false]; try rfl) (Cm.ite (fun hp => j3 _ ?_) (fun hp => j3 _ ?_))
  · rw [hp, Bool.true_and]
  · rw [Bool.eq_false_iff.2 hp, Bool.false_and]
end Go.Proofs.Ytcjddikalgnhpaa.Pure
