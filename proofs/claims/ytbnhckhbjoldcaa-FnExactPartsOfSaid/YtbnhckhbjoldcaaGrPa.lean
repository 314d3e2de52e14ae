/- The parts of a set of nodes, by both; no conditions beyond those that each theorem names. -/
import Derived.Test.YtbnhckhbjoldcaaGrAr
import Derived.Test.YtbnhckhbjoldcaaPxImplNetParts
import Derived.Test.YtbnhckhbjoldcaaPxSpecL2Parts
import Derived.Test.YtbnhckhbjoldcaaPxSpecL2Reach
import Derived.KernelRfl
namespace Go.Proofs.Ytbnhckhbjoldcaa.Gr
open Go.RowKit Go.Proofs.Ytbnhckhbjoldcaa.P Go.Proofs.YtbnhckhbjoldcaaW.PrintWords Go.Proofs.YtbnhckhbjoldcaaW.PrintLast Go.Proofs.YtbnhckhbjoldcaaW.PrintMore

/-- v is reached from x within P. -/
inductive Con (l : List S82) (P : Int → Bool) (x : Int) : Int → Prop
  | base : Con l P x x
  | step (u v : Int) : Con l P x u → P v = true → near l u v = true → Con l P x v

theorem con_min {l : List S82} {P : Int → Bool} {x : Int} (C : Int → Prop) (h : C x) (hs : ∀ u v, C u → P v = true → near l u v = true → C v) : ∀ v, Con l P x v → C v := by
  intro v hv
  induction hv with
  | base => exact h
  | step u v _ hp hn ih => exact hs u v ih hp hn
theorem con_in {s : Int} {l : List S82} (hG : Gr.Good s l) {P : Int → Bool} {x v : Int} (hx : 0 ≤ x ∧ x < s) (hP : P x = true) (h : Con l P x v) : (0 ≤ v ∧ v < s) ∧ P v = true :=
  con_min (fun v => (0 ≤ v ∧ v < s) ∧ P v = true) ⟨hx, hP⟩ (fun _ _ _ hp hn => ⟨(near_in hG hn).2.1, hp⟩) v h

open Classical in
noncomputable def cls (l : List S82) (P : Int → Bool) (x v : Int) : Bool := decide (Con l P x v)
open Classical in
theorem cls_iff {l : List S82} {P : Int → Bool} {x v : Int} : cls l P x v = true ↔ Con l P x v := by unfold cls; exact decide_eq_true_iff

theorem reach_ev (s : Int) (l : List S82) (hl : l.length ≤ 1048576) (hG : Gr.Good s l) (P : Int → Bool) (x : Int) (hx : 0 ≤ x ∧ x < s) (hPx : P x = true) : Ev (fun k => spec_l2Reach.f k s l ((V s).filter P) x) ((V s).filter (cls l P x)) := by
  refine Cm.ev ?_
  unfold spec_l2Reach.f
  have h8 := hG.2.1
  obtain ⟨L, hL⟩ : ∃ L, L = (V s).filter P := ⟨_, rfl⟩
  have hlen : L.length ≤ s.toNat := by rw [hL]; exact VF_len
  have hmL : ∀ b, b ∈ L ↔ (0 ≤ b ∧ b < s) ∧ P b = true := fun b => by rw [hL]; exact mem_VF
  rw [← hL]
  clear hL
  let Cl : List Int → Prop := fun a => ∀ u ∈ a, ∀ v ∈ L, near l u v = true → v ∈ a
  let Base : List Int → Prop := fun a => Up a ∧ x ∈ a ∧ ∀ v ∈ a, v ∈ L ∧ Con l P x v
  have hbl : ∀ a, Base a → a.length ≤ L.length := fun a h => nodup_le (up_nodup h.1) (fun v hv => (h.2.2 v hv).1)
  refine Cm.up (fun k i a => spec_l2Reach.l0 k L a i s l) L.length (fun i a => 0 ≤ i ∧ Base a ∧ (Cl a ∨ i + 1 ≤ (a.length : Int))) _ ?_ 0 [x] (by omega) ⟨by omega, ⟨List.pairwise_singleton _ _, List.mem_singleton.2 rfl, fun v hv => by rw [List.mem_singleton.1 hv]; exact ⟨(hmL x).2 ⟨hx, hPx⟩, Con.base⟩⟩, .inr (by simp)⟩
  rintro i a hi ⟨i0, hB, hC⟩ ih
  by_cases h : i < (L.length : Int)
  · refine Cm.step (fun k => by simp only [spec_l2Reach.l0, if_pos h]; try rfl) ?_
    refine Cm.up (fun k j b => spec_l2Reach.l1 k L b i j s l) L.length (fun j b => 0 ≤ j ∧ Base b ∧ (i + 2 ≤ (b.length : Int) ∨ ((∀ v ∈ L.take j.toNat, ∀ u ∈ b, near l u v = true → v ∈ b) ∧ (Cl b ∨ i + 1 ≤ (b.length : Int))))) _ ?_ 0 a (by omega) ⟨by omega, hB, .inr ⟨by simp, hC⟩⟩
    rintro j b hj ⟨j0, hb, hcb⟩ ihj
    have hbL := hbl b hb
    by_cases h2 : j < (L.length : Int)
    · have hyL := rd_mem L j j0 h2
      have next : ∀ c : List Int, Base c → (i + 2 ≤ (c.length : Int) ∨ ((∀ v ∈ L.take j.toNat, ∀ u ∈ c, near l u v = true → v ∈ c) ∧ (Cl c ∨ i + 1 ≤ (c.length : Int)) ∧ ∀ u ∈ c, near l u (rd L j) = true → rd L j ∈ c)) → Cm (fun k => spec_l2Reach.l1 k L c i (j + 1) s l) (fun r => r = (V s).filter (cls l P x)) := fun c hc hcc => ihj c h2 ⟨by omega, hc, hcc.imp id (fun hh => ⟨fun v hv => by
        rw [take_rd L j j0 h2] at hv
        rcases List.mem_append.1 hv with hv | hv
        · exact hh.1 v hv
        · rw [List.mem_singleton] at hv
          rw [hv]
          exact hh.2.2, hh.2.1⟩)⟩
      have stop : ∀ (c : List Int) (t : Int), Base c → rd L j ∈ c → (i + 2 ≤ (c.length : Int) ∨ ((∀ v ∈ L.take j.toNat, ∀ u ∈ c, near l u v = true → v ∈ c) ∧ (Cl c ∨ i + 1 ≤ (c.length : Int)))) → t < c.length → Cm (fun k => spec_l2Reach.l2 k L c i j t s l) (fun r => r = (V s).filter (cls l P x)) := fun c t hc hyc hcc ht => by
        have hcl := hbl c hc
        refine Cm.step (fun k => by simp only [spec_l2Reach.l2, if_pos ht, if_pos j0, if_pos h2]; try rfl) (Cm.bindE (has_ev c (rd L j) (by omega)) ?_)
        rw [decide_eq_true hyc]
        refine Cm.step (fun k => by simp (disch := omega) only [spec_l2Reach.j3, Bool.not_true, Bool.false_eq_true, if_false, w64 (j + 1)]; try rfl) (next c hc (hcc.imp id (fun hh => ⟨hh.1, hh.2, fun _ _ _ => hyc⟩)))
      refine Cm.step (fun k => by simp only [spec_l2Reach.l1, if_pos h2]; try rfl) ?_
      refine Cm.up (fun k t (_ : Unit) => spec_l2Reach.l2 k L b i j t s l) b.length (fun t _ => 0 ≤ t ∧ ∀ u ∈ b.take t.toNat, near l u (rd L j) = false) _ ?_ 0 () (by omega) ⟨by omega, by simp⟩
      rintro t _ ht ⟨t0, hn⟩ iht
      by_cases h3 : t < (b.length : Int)
      · by_cases hyb : rd L j ∈ b
        · exact stop b t hb hyb hcb h3
        · refine Cm.step (fun k => by simp only [spec_l2Reach.l2, if_pos h3, if_pos j0, if_pos h2]; try rfl) (Cm.bindE (has_ev b (rd L j) (by omega)) ?_)
          rw [decide_eq_false hyb]
          refine Cm.step (fun k => by simp (disch := omega) only [spec_l2Reach.j3, Bool.not_false, if_true, if_pos t0, if_pos h3, if_pos j0, if_pos h2, w64 (t + 1)]; try rfl) ?_
          refine Cm.bindE (near_ev s l (rd b t) (rd L j) hl) (Cm.ite (fun e => ?_) (fun e => iht () h3 ⟨by omega, fun u hu => ?_⟩))
          · refine Cm.bind (l1Put_cm b (rd L j) (by omega) hb.1 hyb) ?_
            rintro c ⟨hc1, hc2, hc3⟩
            have hbt := hb.2.2 _ (rd_mem b t t0 h3)
            have hBc : Base c := ⟨hc1, (hc2 x).2 (.inr hb.2.1), fun v hv => by
              rcases (hc2 v).1 hv with e' | e'
              · rw [e']
                exact ⟨hyL, Con.step _ _ hbt.2 ((hmL _).1 hyL).2 e⟩
              · exact hb.2.2 v e'⟩
            have hnC : ¬ Cl b := fun hC' => hyb (hC' _ (rd_mem b t t0 h3) _ hyL e)
            refine stop c (t + 1) hBc ((hc2 _).2 (.inl rfl)) (.inl ?_) (by omega)
            rcases hcb with h4 | h4
            · omega
            · have := h4.2.resolve_left hnC
              omega
          · rw [take_rd b t t0 h3] at hu
            rcases List.mem_append.1 hu with hu | hu
            · exact hn u hu
            · rw [List.mem_singleton] at hu
              rw [hu]
              exact Bool.eq_false_iff.2 e
      · have hnone : ∀ u ∈ b, near l u (rd L j) = false := by rw [take_all b t (by omega)] at hn; exact hn
        refine Cm.step (fun k => by simp only [spec_l2Reach.l2, if_neg h3]; try rfl) (Cm.step (fun k => by simp (disch := omega) only [spec_l2Reach.j3, Bool.false_eq_true, if_false, w64 (j + 1)]; try rfl) (next b hb (hcb.imp id (fun hh => ⟨hh.1, hh.2, fun u hu e => ?_⟩))))
        rw [hnone u hu] at e
        exact Bool.noConfusion e
    · refine Cm.step (fun k => by simp (disch := omega) only [spec_l2Reach.l1, if_neg h2, w64 (i + 1)]; try rfl) (ih b h ⟨by omega, hb, ?_⟩)
      rw [take_all L j (by omega)] at hcb
      exact hcb.elim (fun h4 => .inr (by omega)) (fun h4 => .inl (fun u hu v hv hn => h4.1 v hv u hu hn))
  · refine Cm.step (fun k => by simp only [spec_l2Reach.l0, if_neg h]; try rfl) (Cm.now ?_)
    have haL := hbl a hB
    have hCl : Cl a := hC.resolve_right (by omega)
    refine up_ext hB.1 (filter_up (V_up _) _) (fun v => ?_)
    rw [mem_VF, cls_iff]
    constructor
    · intro hv
      have := hB.2.2 v hv
      exact ⟨((hmL v).1 this.1).1, this.2⟩
    · rintro ⟨_, hv⟩
      exact con_min (fun v => v ∈ a) hB.2.1 (fun u v hu hp hn => hCl u hu v ((hmL v).2 ⟨(near_in hG hn).2.1, hp⟩) hn) v hv

/-- The parts of P, n at most, the one of the least node first. -/
noncomputable def partsF (s : Int) (l : List S82) : Nat → (Int → Bool) → List (List Int)
  | 0, _ => []
  | n + 1, P => match (V s).filter P with
    | [] => []
    | x :: _ => (V s).filter (cls l P x) :: partsF s l n (fun v => P v && !cls l P x v)
theorem partsF_nil {s : Int} {l : List S82} {P : Int → Bool} (h : (V s).filter P = []) : ∀ n, partsF s l n P = []
  | 0 => rfl
  | n + 1 => by unfold partsF; rw [h]
theorem partsF_cons {s : Int} {l : List S82} {P : Int → Bool} {x : Int} {t : List Int} (h : (V s).filter P = x :: t) (n : Nat) : partsF s l (n + 1) P = (V s).filter (cls l P x) :: partsF s l n (fun v => P v && !cls l P x v) := by
  conv => lhs; unfold partsF
  rw [h]
theorem rest_len {s : Int} {l : List S82} {P : Int → Bool} {x : Int} {t : List Int} (h : (V s).filter P = x :: t) : ((V s).filter (fun v => P v && !cls l P x v)).length + 1 ≤ ((V s).filter P).length := by
  have hx : x ∈ (V s).filter P := by rw [h]; exact List.mem_cons_self
  have hx' := mem_VF.1 hx
  refine nodup_le (a := x :: (V s).filter (fun v => P v && !cls l P x v)) (List.nodup_cons.2 ⟨fun hh => ?_, up_nodup (filter_up (V_up _) _)⟩) (fun y hy => ?_)
  · have := (mem_VF.1 hh).2
    rw [cls_iff.2 Con.base] at this
    simp at this
  · rcases List.mem_cons.1 hy with e | e
    · rw [e]
      exact hx
    · have := mem_VF.1 e
      rw [Bool.and_eq_true] at this
      exact mem_VF.2 ⟨this.1, this.2.1⟩

theorem low_all : ((List.range 256).all fun m => m == 0 || Go.bits .and .i64 m (wrap64 (-(m : Int))) == shl .i64 1 (((V 8).filter (bit m)).headD 0)) = true := by kernel_rfl
theorem low_ok (s : Int) (P : Int → Bool) (m x : Int) (t : List Int) (h8 : s ≤ 8) (hM : IsM s P m) (h : (V s).filter P = x :: t) : Go.bits .and .i64 m (wrap64 (-m)) = shl .i64 1 x := by
  have e : (V 8).filter (bit m) = (V s).filter P := by
    refine up_ext (filter_up (V_up _) _) (filter_up (V_up _) _) (fun v => ?_)
    rw [mem_VF, mem_VF]
    constructor
    · rintro ⟨h1, h2⟩
      rw [hM.2 v h1.1 h1.2, Bool.and_eq_true, decide_eq_true_eq] at h2
      exact ⟨⟨h1.1, h2.1⟩, h2.2⟩
    · rintro ⟨h1, h2⟩
      refine ⟨⟨h1.1, by omega⟩, ?_⟩
      rw [hM.2 v h1.1 (by omega), decide_eq_true h1.2, h2]
      rfl
  have h' := List.all_eq_true.1 low_all m.toNat (List.mem_range.2 (by have := hM.1; omega))
  rw [Int.toNat_of_nonneg hM.1.1, e, h, Bool.or_eq_true, beq_iff_eq, beq_iff_eq] at h'
  rcases h' with h' | h'
  · have hx := mem_VF.1 (show x ∈ (V s).filter P by rw [h]; exact List.mem_cons_self)
    have hm : m = 0 := by have := hM.1; omega
    have hb := hM.2 x hx.1.1 (by omega)
    rw [hm, zero_ok.2 x hx.1.1 (by omega), decide_eq_true hx.1.2, hx.2] at hb
    exact Bool.noConfusion hb
  · exact h'
theorem mask_le (a b : Int) (ha : M8 a) (hb : M8 b) (h : ∀ v : Int, 0 ≤ v → v < 8 → bit a v = true → bit b v = true) : a ≤ b := by
  have h1 := or_ok a b ha hb
  have e : Go.bits .or .i64 a b = b := mask_ext _ _ h1.1 hb (fun v v0 v1 => by
    rw [h1.2 v v0 (by omega)]
    by_cases c : bit a v = true
    · rw [h v v0 v1 c, c]; rfl
    · rw [Bool.eq_false_iff.2 c]; rfl)
  have e2 := (bits_n a.toNat b.toNat (by omega) (by omega)).2
  rw [Int.toNat_of_nonneg ha.1, Int.toNat_of_nonneg hb.1, e] at e2
  have := @Nat.left_le_or a.toNat b.toNat
  omega

/-- Each set of nodes has a mask. -/
theorem mask_of (s : Int) (P : Int → Bool) : ∃ p : Int, IsM s P p := by
  suffices h : ∀ n : Nat, n ≤ 8 → ∃ p : Int, M8 p ∧ ∀ v : Int, 0 ≤ v → v < 8 → bit p v = (decide (v < n) && (decide (v < s) && P v)) by
    obtain ⟨p, hp, hb⟩ := h 8 (by omega)
    exact ⟨p, hp, fun v v0 v1 => by rw [hb v v0 v1, decide_eq_true (show v < ((8 : Nat) : Int) by omega), Bool.true_and]⟩
  intro n
  induction n with
  | zero => exact fun _ => ⟨0, zero_ok.1, fun v v0 v1 => by rw [zero_ok.2 v v0 (by omega), decide_eq_false (show ¬ v < ((0 : Nat) : Int) by omega), Bool.false_and]⟩
  | succ n ih =>
    intro hn
    obtain ⟨p, hp, hb⟩ := ih (by omega)
    by_cases c : (decide ((n : Int) < s) && P n) = true
    · have h1 := one_ok n (by omega) (by omega)
      have h2 := or_ok p _ hp h1.1
      refine ⟨_, h2.1, fun v v0 v1 => ?_⟩
      rw [h2.2 v v0 (by omega), hb v v0 v1, h1.2 v v0 (by omega)]
      by_cases e : v = n
      · subst e
        rw [beq_self_eq_true, Bool.or_true, c, decide_eq_true (show (n : Int) < ((n + 1 : Nat) : Int) by omega)]
        rfl
      · rw [show (v == (n : Int)) = false by rw [beq_eq_false_iff_ne]; exact e, Bool.or_false, show decide (v < (n : Int)) = decide (v < ((n + 1 : Nat) : Int)) by rw [decide_eq_decide]; omega]
    · refine ⟨p, hp, fun v v0 v1 => ?_⟩
      rw [hb v v0 v1]
      by_cases e : v = n
      · subst e
        rw [Bool.eq_false_iff.2 c, Bool.and_false, Bool.and_false]
      · rw [show decide (v < (n : Int)) = decide (v < ((n + 1 : Nat) : Int)) by rw [decide_eq_decide]; omega]

/-- Masks that tell lists of nodes. -/
def Tells (s : Int) (a : List Int) (b : List (List Int)) : Prop := a.length = b.length ∧ ∀ j : Nat, j < a.length → M8 (a.getD j 0) ∧ ∀ v : Int, 0 ≤ v → v < 8 → bit (a.getD j 0) v = (decide (v < s) && decide (v ∈ b.getD j []))

theorem parts_impl (s : Int) (l : List S82) (hG : Gr.Good s l) (m : List Int) (hm : Net s l m) : ∀ (n : Nat) (P : Int → Bool) (q : Int) (acc : List Int), ((V s).filter P).length ≤ n → IsM s P q → acc.length + n ≤ 1000 →
    ∃ a, Tells s a (partsF s l n P) ∧ a.length ≤ n ∧ Ev (fun k => impl_net_parts.l0 k q acc m) (acc ++ a) := by
  intro n
  have h8 := hG.2.1
  induction n with
  | zero =>
    intro P q acc hn hq ha
    have hz : q = 0 := by
      refine mask_ext q 0 hq.1 zero_ok.1 (fun v v0 v1 => ?_)
      rw [hq.2 v v0 v1, zero_ok.2 v v0 (by omega)]
      by_cases hv : v < s
      · cases hp : P v with
        | false => rw [Bool.and_false]
        | true =>
          have := List.length_pos_of_mem (mem_VF.2 ⟨⟨v0, hv⟩, hp⟩)
          omega
      · rw [decide_eq_false hv]
        rfl
    exact ⟨[], ⟨rfl, fun j hj => absurd hj (by simp)⟩, by simp, Cm.ev (Cm.step (fun k => by simp only [impl_net_parts.l0, if_pos hz]; try rfl) (Cm.now (by rw [List.append_nil])))⟩
  | succ n ih =>
    intro P q acc hn hq ha
    cases hF : (V s).filter P with
    | nil =>
      have hz : q = 0 := by
        refine mask_ext q 0 hq.1 zero_ok.1 (fun v v0 v1 => ?_)
        rw [hq.2 v v0 v1, zero_ok.2 v v0 (by omega)]
        by_cases hv : v < s
        · cases hp : P v with
          | false => rw [Bool.and_false]
          | true =>
            have := List.length_pos_of_mem (mem_VF.2 ⟨⟨v0, hv⟩, hp⟩)
            rw [hF] at this
            simp at this
        · rw [decide_eq_false hv]
          rfl
      rw [partsF_nil hF]
      exact ⟨[], ⟨rfl, fun j hj => absurd hj (by simp)⟩, by simp, Cm.ev (Cm.step (fun k => by simp only [impl_net_parts.l0, if_pos hz]; try rfl) (Cm.now (by rw [List.append_nil])))⟩
    | cons x t =>
      have hx := mem_VF.1 (show x ∈ (V s).filter P by rw [hF]; exact List.mem_cons_self)
      have hnz : ¬ q = 0 := fun e => by
        have hb := hq.2 x hx.1.1 (by omega)
        rw [e, zero_ok.2 x hx.1.1 (by omega), decide_eq_true hx.1.2, hx.2] at hb
        exact Bool.noConfusion hb
      have h1 := one_ok x hx.1.1 (by omega)
      -- the part of x as a mask
      obtain ⟨p, hp⟩ := mask_of s (cls l P x)
      have hpq := not_ok q p hq.1 hp.1
      have hM' : IsM s (fun v => P v && !cls l P x v) (Go.bits .andNot .i64 q p) := ⟨hpq.1, fun v v0 v1 => by
        rw [hpq.2 v v0 (by omega), hq.2 v v0 v1, hp.2 v v0 v1]
        by_cases hv : v < s
        · rw [decide_eq_true hv, Bool.true_and, Bool.true_and, Bool.true_and]
        · rw [decide_eq_false hv]
          rfl⟩
      have hrl := rest_len (l := l) hF
      obtain ⟨a, hT, hal, e⟩ := ih _ (Go.bits .andNot .i64 q p) (acc ++ [p]) (by omega) hM' (by rw [List.length_append, List.length_singleton]; omega)
      refine ⟨p :: a, ?_, by rw [List.length_cons]; omega, Cm.ev ?_⟩
      · rw [partsF_cons hF]
        refine ⟨by rw [List.length_cons, List.length_cons, hT.1], fun j hj => ?_⟩
        cases j with
        | zero =>
          refine ⟨hp.1, fun v v0 v1 => ?_⟩
          rw [show (p :: a).getD 0 0 = p from rfl, hp.2 v v0 v1]
          by_cases hv : v < s
          · rw [decide_eq_true hv, Bool.true_and, Bool.true_and]
            rw [Bool.eq_iff_iff, decide_eq_true_eq]
            exact ⟨fun hc => mem_VF.2 ⟨⟨v0, hv⟩, hc⟩, fun hc => (mem_VF.1 hc).2⟩
          · rw [decide_eq_false hv]
            rfl
        | succ j => exact hT.2 j (by rw [List.length_cons] at hj; omega)
      · refine Cm.step (fun k => by simp only [impl_net_parts.l0, if_neg hnz]; try rfl) ?_
        rw [low_ok s P q x t h8 hq hF]
        refine Cm.meas (fun k b => impl_net_parts.l1 k q acc b m) (fun b => (256 - b).toNat) (fun b => M8 b ∧ bit b x = true ∧ ∀ v : Int, 0 ≤ v → v < 8 → bit b v = true → Con l P x v) (fun _ r => r = acc ++ p :: a) ?_ _ ⟨h1.1, by rw [h1.2 x hx.1.1 (by omega)]; exact beq_self_eq_true x, fun v v0 v1 hv => by
          rw [h1.2 v v0 (by omega), beq_iff_eq] at hv
          rw [hv]
          exact Con.base⟩
        rintro b ⟨hbM, hbx, hbC⟩ ihb
        refine Cm.step (fun k => by simp only [impl_net_parts.l1]; try rfl) (Cm.bind (around_cm s l h8 m hm b hbM) ?_)
        rintro r ⟨hrM, hr⟩
        have h2 := and_ok r q hrM hq.1
        have bits : ∀ v : Int, 0 ≤ v → v < 8 → (bit (Go.bits .and .i64 r q) v = true ↔ (bit b v = true ∨ ∃ u : Int, (0 ≤ u ∧ u < s) ∧ bit b u = true ∧ near l u v = true) ∧ v < s ∧ P v = true) := fun v v0 v1 => by
          rw [h2.2 v v0 (by omega), Bool.and_eq_true, hr v v0 v1, hq.2 v v0 v1, Bool.and_eq_true, decide_eq_true_eq]
        refine Cm.ite (fun e1 => ?_) (fun e1 => ihb _ ⟨h2.1, (bits x hx.1.1 (by omega)).2 ⟨.inl hbx, hx.1.2, hx.2⟩, fun v v0 v1 hv => ?_⟩ ?_)
        · have hbp : b = p := by
            refine mask_ext b p hbM hp.1 (fun v v0 v1 => ?_)
            rw [hp.2 v v0 v1, Bool.eq_iff_iff, Bool.and_eq_true, decide_eq_true_eq, cls_iff]
            constructor
            · intro hv
              have := hbC v v0 v1 hv
              exact ⟨(con_in hG hx.1 hx.2 this).1.2, this⟩
            · rintro ⟨_, hv⟩
              refine (con_min (fun v => (0 ≤ v ∧ v < s) ∧ bit b v = true) ⟨hx.1, hbx⟩ (fun u v hu hpv hn => ?_) v hv).2
              have hvn := (near_in hG hn).2.1
              refine ⟨hvn, ?_⟩
              have := (bits v hvn.1 (by omega)).2 ⟨.inr ⟨u, hu.1, hu.2, hn⟩, hvn.2, hpv⟩
              rw [e1] at this
              exact this
          rw [hbp]
          refine Cm.pos (by omega) (Cm.of e ?_)
          rw [List.append_assoc]
          rfl
        · rcases ((bits v v0 v1).1 hv).1 with h3 | ⟨u, hu, h3, h4⟩
          · exact hbC v v0 v1 h3
          · exact Con.step u v (hbC u hu.1 (by omega) h3) ((bits v v0 v1).1 hv).2.2 h4
        · have hle := mask_le b _ hbM h2.1 (fun v v0 v1 hv => (bits v v0 v1).2 ⟨.inl hv, (con_in hG hx.1 hx.2 (hbC v v0 v1 hv)).1.2, (con_in hG hx.1 hx.2 (hbC v v0 v1 hv)).2⟩)
          have hne : b ≠ Go.bits .and .i64 r q := fun e' => e1 e'.symm
          have := h2.1
          omega

theorem parts_spec (s : Int) (l : List S82) (hl : l.length ≤ 1048576) (hG : Gr.Good s l) (P : Int → Bool) (N : Nat) (hN : ((V s).filter P).length ≤ N) : Ev (fun k => spec_l2Parts.f k s l ((V s).filter P)) (partsF s l N P) := by
  refine Cm.ev ?_
  unfold spec_l2Parts.f
  have h8 := hG.2.1
  have hre := fun x hx hPx => reach_ev s l hl hG P x hx hPx
  obtain ⟨L, hL⟩ : ∃ L, L = (V s).filter P := ⟨_, rfl⟩
  have hlen : L.length ≤ s.toNat := by rw [hL]; exact VF_len
  have hmL : ∀ b, b ∈ L ↔ (0 ≤ b ∧ b < s) ∧ P b = true := fun b => by rw [hL]; exact mem_VF
  have hupL : Up L := by rw [hL]; exact filter_up (V_up _) _
  rw [← hL] at hre hN ⊢
  clear hL
  refine Cm.up (fun k i (z : List (List Int) × List Int) => spec_l2Parts.l0 k L z.1 z.2 i s l) L.length (fun i z => 0 ≤ i ∧ Up z.2 ∧ (∀ v ∈ z.2, v ∈ L) ∧ (∀ j : Int, 0 ≤ j → j < i → rd L j ∈ z.2) ∧ (∀ u ∈ z.2, ∀ v : Int, P v = true → near l u v = true → v ∈ z.2) ∧ z.1.length ≤ z.2.length ∧ ∃ n, ((V s).filter (fun v => P v && !decide (v ∈ z.2))).length ≤ n ∧ z.1 ++ partsF s l n (fun v => P v && !decide (v ∈ z.2)) = partsF s l N P) _ ?_ 0 ([], []) (by omega) ?_
  · rintro i ⟨acc, seen⟩ hi ⟨i0, hup, hsL, hdone, hcl, hac, n, hn, heq⟩ ih
    dsimp only at hup hsL hdone hcl hac hn heq
    have hseen : seen.length ≤ L.length := nodup_le (up_nodup hup) hsL
    by_cases h : i < (L.length : Int)
    · have hyL := rd_mem L i i0 h
      have hy := (hmL _).1 hyL
      obtain ⟨y, hyd⟩ : ∃ y, y = rd L i := ⟨_, rfl⟩
      refine Cm.step (fun k => by simp only [spec_l2Parts.l0, if_pos h, if_pos i0]; try rfl) ?_
      rw [← hyd] at hyL hy ⊢
      refine Cm.bindE (has_ev seen y (by omega)) (Cm.ite (fun e => ?_) (fun e => ?_))
      · have e' := of_decide_eq_true e
        rw [w64 (i + 1) (by omega) (by omega)]
        refine ih (acc, seen) h ⟨by omega, hup, hsL, fun j j0 j1 => ?_, hcl, hac, n, hn, heq⟩
        by_cases hj : j < i
        · exact hdone j j0 hj
        · rw [show j = i by omega, ← hyd]
          exact e'
      · have e' : y ∉ seen := fun h' => e (decide_eq_true h')
        refine Cm.bindE (hre y hy.1 hy.2) ?_
        -- what is reached is not seen
        have hns : ∀ v, Con l P y v → v ∉ seen ∧ P v = true := con_min (fun v => v ∉ seen ∧ P v = true) ⟨e', hy.2⟩ (fun u v hu hp hnr => ⟨fun hv => hu.1 (hcl v hv u hu.2 (by rw [near_symm]; exact hnr)), hp⟩)
        obtain ⟨t, ht⟩ : ∃ t, t = (V s).filter (cls l P y) := ⟨_, rfl⟩
        have hmt : ∀ v, v ∈ t ↔ Con l P y v := fun v => by
          rw [ht, mem_VF, cls_iff]
          exact ⟨fun h' => h'.2, fun h' => ⟨(con_in hG hy.1 hy.2 h').1, h'⟩⟩
        have htup : Up t := by rw [ht]; exact filter_up (V_up _) _
        have htl : t.length ≤ s.toNat := by rw [ht]; exact VF_len
        have htpos : 0 < t.length := List.length_pos_of_mem ((hmt y).2 Con.base)
        -- the first of those that are left
        obtain ⟨t', hF⟩ : ∃ t', (V s).filter (fun v => P v && !decide (v ∈ seen)) = y :: t' := by
          have hyF : y ∈ (V s).filter (fun v => P v && !decide (v ∈ seen)) := mem_VF.2 ⟨hy.1, by rw [hy.2, decide_eq_false e']; rfl⟩
          cases hFF : (V s).filter (fun v => P v && !decide (v ∈ seen)) with
          | nil => rw [hFF] at hyF; exact absurd hyF (by simp)
          | cons x t' =>
            have hxF := mem_VF.1 (show x ∈ (V s).filter (fun v => P v && !decide (v ∈ seen)) by rw [hFF]; exact List.mem_cons_self)
            rw [Bool.and_eq_true, Bool.not_eq_true', decide_eq_false_iff_not] at hxF
            obtain ⟨jx, jx0, jx1, hjx⟩ := mem_rd ((hmL x).2 ⟨hxF.1, hxF.2.1⟩)
            have hge : i ≤ jx := by
              by_cases hc : i ≤ jx
              · exact hc
              · exact (hxF.2.2 (by rw [← hjx]; exact hdone jx jx0 (by omega))).elim
            have hle : y ≤ x := by
              by_cases hc : i = jx
              · rw [hyd, ← hjx, hc]; omega
              · have := up_rd hupL i jx i0 (by omega) jx1
                rw [← hyd, hjx] at this
                omega
            have hupF : Up (x :: t') := by rw [← hFF]; exact filter_up (V_up _) _
            have hxy : x = y := by
              rw [hFF] at hyF
              rcases List.mem_cons.1 hyF with h1 | h1
              · exact h1.symm
              · have := List.rel_of_pairwise_cons hupF h1
                omega
            exact ⟨t', by rw [hxy]⟩
        have hcls : ∀ v, Con l (fun v => P v && !decide (v ∈ seen)) y v ↔ Con l P y v := fun v => by
          constructor
          · exact con_min (fun v => Con l P y v) Con.base (fun u v hu hp hnr => Con.step u v hu (by rw [Bool.and_eq_true] at hp; exact hp.1) hnr) v
          · intro hv
            refine (con_min (fun v => Con l (fun v => P v && !decide (v ∈ seen)) y v ∧ Con l P y v) ⟨Con.base, Con.base⟩ (fun u v hu hp hnr => ?_) v hv).1
            have hc := Con.step u v hu.2 hp hnr
            exact ⟨Con.step u v hu.1 (by rw [hp, decide_eq_false (hns v hc).1]; rfl) hnr, hc⟩
        have hclsf : cls l (fun v => P v && !decide (v ∈ seen)) y = cls l P y := funext (fun v => by rw [Bool.eq_iff_iff, cls_iff, cls_iff]; exact hcls v)
        obtain ⟨n', rfl⟩ : ∃ n', n = n' + 1 := ⟨n - 1, by rw [hF, List.length_cons] at hn; omega⟩
        have hrl := rest_len (l := l) hF
        rw [partsF_cons hF, hclsf, ← ht] at heq
        rw [hclsf] at hrl
        rw [← ht]
        refine Cm.up (fun k j b => spec_l2Parts.l1 k L acc b i t j s l) t.length (fun j b => 0 ≤ j ∧ Up b ∧ (∀ v, v ∈ b ↔ v ∈ seen ∨ v ∈ t.take j.toNat) ∧ (b.length : Int) = seen.length + j) _ ?_ 0 seen (by omega) ⟨by omega, hup, by simp, by omega⟩
        rintro j b hj ⟨j0, hbu, hbm, hbl⟩ ihj
        by_cases h2 : j < (t.length : Int)
        · have hnb : rd t j ∉ b := fun hb' => by
            rcases (hbm _).1 hb' with h3 | h3
            · exact (hns _ ((hmt _).1 (rd_mem t j j0 h2))).1 h3
            · obtain ⟨jj, hjj, hjj'⟩ := List.mem_iff_getElem.1 h3
              rw [List.length_take] at hjj
              have h4 := up_rd htup jj j (by omega) (by omega) h2
              rw [List.getElem_take] at hjj'
              rw [rd_eq t jj (by omega), hjj'] at h4
              omega
          refine Cm.step (fun k => by simp (disch := omega) only [spec_l2Parts.l1, if_pos h2, if_pos j0, w64 (j + 1)]; try rfl) (Cm.bind (l1Put_cm b (rd t j) (by omega) hbu hnb) ?_)
          rintro c ⟨hc1, hc2, hc3⟩
          refine ihj c h2 ⟨by omega, hc1, fun v => ?_, by omega⟩
          rw [hc2, hbm, take_rd t j j0 h2, List.mem_append, List.mem_singleton]
          constructor
          · rintro (h3 | h3 | h3)
            · exact .inr (.inr h3)
            · exact .inl h3
            · exact .inr (.inl h3)
          · rintro (h3 | h3 | h3)
            · exact .inr (.inl h3)
            · exact .inr (.inr h3)
            · exact .inl h3
        · rw [take_all t j (by omega)] at hbm
          have hbm' : ∀ v, v ∈ b ↔ v ∈ seen ∨ Con l P y v := fun v => by rw [hbm, hmt]
          have hfun : (fun v => (P v && !decide (v ∈ seen)) && !cls l P y v) = (fun v => P v && !decide (v ∈ b)) := funext (fun v => by
            rw [Bool.and_assoc]
            congr 1
            rw [Bool.eq_iff_iff, Bool.and_eq_true, Bool.not_eq_true', Bool.not_eq_true', Bool.not_eq_true', decide_eq_false_iff_not, decide_eq_false_iff_not, hbm', ← cls_iff, ← Bool.not_eq_true]
            exact ⟨fun h3 h4 => h4.elim h3.1 h3.2, fun h3 => ⟨fun h4 => h3 (.inl h4), fun h4 => h3 (.inr h4)⟩⟩)
          rw [hfun] at heq hrl
          refine Cm.step (fun k => by simp (disch := omega) only [spec_l2Parts.l1, if_neg h2, w64 (i + 1)]; try rfl) (Cm.pos (by omega) (ih (acc ++ [t], b) h ⟨by omega, hbu, fun v hv => ?_, fun jj j0 j1 => ?_, fun u hu v hp hnr => ?_, ?_, n', by dsimp only; omega, ?_⟩))
          · rcases (hbm' v).1 hv with h3 | h3
            · exact hsL v h3
            · exact (hmL v).2 (con_in hG hy.1 hy.2 h3)
          · refine (hbm' _).2 ?_
            by_cases hj : jj < i
            · exact .inl (hdone jj j0 hj)
            · rw [show jj = i by omega, ← hyd]
              exact .inr Con.base
          · refine (hbm' v).2 ?_
            rcases (hbm' u).1 hu with h3 | h3
            · exact .inl (hcl u h3 v hp hnr)
            · exact .inr (Con.step u v h3 hp hnr)
          · dsimp only
            rw [List.length_append, List.length_singleton]
            omega
          · dsimp only
            rw [List.append_assoc]
            exact heq
    · refine Cm.step (fun k => by simp only [spec_l2Parts.l0, if_neg h]; try rfl) (Cm.now ?_)
      have hnil : (V s).filter (fun v => P v && !decide (v ∈ seen)) = [] := by
        rw [List.filter_eq_nil_iff]
        intro v hv hc
        rw [Bool.and_eq_true, Bool.not_eq_true', decide_eq_false_iff_not] at hc
        obtain ⟨j, j0, j1, hj⟩ := mem_rd ((hmL v).2 ⟨mem_V.1 hv, hc.1⟩)
        exact hc.2 (by rw [← hj]; exact hdone j j0 (by omega))
      rw [partsF_nil hnil, List.append_nil] at heq
      exact heq
  · refine ⟨by omega, List.Pairwise.nil, by simp, fun j a b => by omega, by simp, by simp, N, ?_, ?_⟩
    · dsimp only
      rw [VF_congr (q := P) (fun v _ _ => by simp)]
      have : ((V s).filter P).length = L.length := by
        have : (V s).filter P = L := up_ext (filter_up (V_up _) _) hupL (fun v => by rw [mem_VF, hmL])
        rw [this]
      omega
    · dsimp only
      rw [List.nil_append]
      congr 1
      exact funext (fun v => by simp)

end Go.Proofs.Ytbnhckhbjoldcaa.Gr
