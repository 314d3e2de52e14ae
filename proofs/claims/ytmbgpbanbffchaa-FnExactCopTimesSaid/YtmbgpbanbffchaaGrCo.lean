/- The game of one cop, by tables of times; no conditions beyond those that each theorem names. -/
import Derived.Test.YtmbgpbanbffchaaGrL
namespace Go.Proofs.Ytmbgpbanbffchaa.Gr
open Go.RowKit Go.Proofs.YtmbgpbanbffchaaW.PrintWords Go.Proofs.YtmbgpbanbffchaaW.PrintLast Go.Proofs.YtmbgpbanbffchaaW.PrintMore

/-- The greatest value of f over a list, from m on; -1 if one of them is below 0. -/
def worst (f : Int → Int) : List Int → Int → Int
  | [], m => m
  | y :: L, m => if f y < 0 then -1 else worst f L (if m < f y then f y else m)

theorem worst_neg {f : Int → Int} : ∀ (L : List Int) (m : Int), (∃ y, y ∈ L ∧ f y < 0) → worst f L m = -1
  | [], _, h => by obtain ⟨_, h, _⟩ := h; cases h
  | y :: L, m, h => by
    unfold worst
    by_cases c : f y < 0
    · rw [if_pos c]
    · rw [if_neg c]
      refine worst_neg L _ ?_
      obtain ⟨z, hz, hn⟩ := h
      rcases List.mem_cons.1 hz with rfl | hz
      · exact (c hn).elim
      · exact ⟨z, hz, hn⟩

theorem worst_pos {f : Int → Int} : ∀ (L : List Int) (m : Int), (∀ y, y ∈ L → ¬ f y < 0) → m ≤ worst f L m ∧ (∀ y, y ∈ L → f y ≤ worst f L m) ∧ (worst f L m = m ∨ ∃ y, y ∈ L ∧ worst f L m = f y)
  | [], m, _ => And.intro (Int.le_refl _) (And.intro (fun _ h => nomatch h) (Or.inl rfl))
  | y :: L, m, h => by
    unfold worst
    rw [if_neg (h y List.mem_cons_self)]
    obtain ⟨h1, h2, h3⟩ := worst_pos L (if m < f y then f y else m) (fun z hz => h z (List.mem_cons_of_mem _ hz))
    obtain ⟨M, hM⟩ : ∃ M, M = (if m < f y then f y else m) := ⟨_, rfl⟩
    have hm : m ≤ M ∧ f y ≤ M ∧ (M = m ∨ M = f y) := by rw [hM]; split <;> omega
    rw [← hM] at h1 h2 h3 ⊢
    refine ⟨by omega, fun z hz => ?_, ?_⟩
    · rcases List.mem_cons.1 hz with rfl | hz
      · omega
      · exact h2 z hz
    · rcases h3 with h3 | ⟨z, hz, h3⟩
      · rcases hm.2.2 with h4 | h4
        · exact .inl (by omega)
        · exact .inr ⟨y, List.mem_cons_self, by omega⟩
      · exact .inr ⟨z, List.mem_cons_of_mem _ hz, h3⟩

theorem worst_iff {f : Int → Int} {L : List Int} {m : Int} (hm : 0 ≤ m) : 0 ≤ worst f L m ↔ ∀ y, y ∈ L → ¬ f y < 0 := by
  constructor
  · intro h y hy hn
    rw [worst_neg L m ⟨y, hy, hn⟩] at h
    omega
  · intro h
    have := (worst_pos L m h).1
    omega

theorem worst_congr {f g : Int → Int} : ∀ (L : List Int) (m : Int), (∀ y, y ∈ L → f y = g y) → worst f L m = worst g L m
  | [], _, _ => rfl
  | y :: L, m, h => by
    unfold worst
    rw [h y List.mem_cons_self, worst_congr L _ (fun z hz => h z (List.mem_cons_of_mem _ hz))]

/-- The time behind a move of the cop to c. -/
def after (T : Int → Int → Int) (B : Int → List Int) (c r : Int) : Int := if c = r then 0 else worst (T c) (B r) 0
/-- Whether the cop has a move behind which there is a time. -/
def can (T : Int → Int → Int) (B : Int → List Int) (c r : Int) : Bool := (B c).any (fun y => decide (0 ≤ after T B y r))
theorem can_iff {T : Int → Int → Int} {B : Int → List Int} {c r : Int} : can T B c r = true ↔ ∃ y, y ∈ B c ∧ 0 ≤ after T B y r := by
  unfold can
  rw [List.any_eq_true]
  exact ⟨fun ⟨y, h1, h2⟩ => ⟨y, h1, of_decide_eq_true h2⟩, fun ⟨y, h1, h2⟩ => ⟨y, h1, decide_eq_true h2⟩⟩
/-- Whether a round gives a situation its time. -/
def due (T : Int → Int → Int) (B : Int → List Int) (c r : Int) : Prop := T c r < 0 ∧ can T B c r = true
instance (T : Int → Int → Int) (B : Int → List Int) (c r : Int) : Decidable (due T B c r) := by unfold due; exact inferInstance
/-- The table behind a round. -/
def nxt (n : Int) (T : Int → Int → Int) (B : Int → List Int) (c r : Int) : Int := if due T B c r then n + 1 else T c r

/-- Moves lead to nodes. -/
def Bal (s : Int) (B : Int → List Int) : Prop := ∀ x, 0 ≤ x ∧ x < s → ∀ y, y ∈ B x → 0 ≤ y ∧ y < s

structure Tim (s : Int) (B : Int → List Int) (n : Int) (T : Int → Int → Int) : Prop where
  n0 : 0 ≤ n
  a : ∀ c r, 0 ≤ c ∧ c < s → 0 ≤ r ∧ r < s → -1 ≤ T c r ∧ T c r ≤ n ∧ (T c r = 0 ↔ c = r)
  b : ∀ c r, 0 ≤ c ∧ c < s → 0 ≤ r ∧ r < s → T c r < 0 → ∀ y, y ∈ B c → 0 ≤ after T B y r → after T B y r = n
  c : ∀ c r, 0 ≤ c ∧ c < s → 0 ≤ r ∧ r < s → 1 ≤ T c r → ∃ y, y ∈ B c ∧ after T B y r = T c r - 1

theorem after_le {s n : Int} {B : Int → List Int} {T : Int → Int → Int} (hB : Bal s B) (n0 : 0 ≤ n) (h : ∀ c r, 0 ≤ c ∧ c < s → 0 ≤ r ∧ r < s → T c r ≤ n) {c r : Int} (hc : 0 ≤ c ∧ c < s) (hr : 0 ≤ r ∧ r < s) : after T B c r ≤ n := by
  unfold after
  by_cases e : c = r
  · rw [if_pos e]; exact n0
  · rw [if_neg e]
    by_cases hn : ∃ y, y ∈ B r ∧ T c y < 0
    · rw [worst_neg _ _ hn]; omega
    · obtain ⟨_, _, h3⟩ := worst_pos (f := T c) (B r) 0 (fun y hy hh => hn ⟨y, hy, hh⟩)
      rcases h3 with h3 | ⟨y, hy, h3⟩
      · omega
      · rw [h3]; exact h c y hc (hB r hr y hy)

theorem after_keep {s : Int} {B : Int → List Int} {T T' : Int → Int → Int} (hB : Bal s B) (h : ∀ c r, 0 ≤ c ∧ c < s → 0 ≤ r ∧ r < s → 0 ≤ T c r → T' c r = T c r) {c r : Int} (hc : 0 ≤ c ∧ c < s) (hr : 0 ≤ r ∧ r < s) (h0 : 0 ≤ after T B c r) : after T' B c r = after T B c r := by
  unfold after at h0 ⊢
  by_cases e : c = r
  · rw [if_pos e, if_pos e]
  · rw [if_neg e] at h0
    rw [if_neg e, if_neg e]
    have hp := (worst_iff (Int.le_refl 0)).1 h0
    exact worst_congr _ _ (fun y hy => h c y hc (hB r hr y hy) (by have := hp y hy; omega))

theorem nxt_keep {n : Int} {T : Int → Int → Int} {B : Int → List Int} {c r : Int} (h : 0 ≤ T c r) : nxt n T B c r = T c r := by
  unfold nxt
  rw [if_neg (fun hd => by have := hd.1; omega)]

theorem tim_next {s n : Int} {B : Int → List Int} {T : Int → Int → Int} (hB : Bal s B) (h : Tim s B n T) : Tim s B (n + 1) (nxt n T B) := by
  have hk : ∀ c r, 0 ≤ c ∧ c < s → 0 ≤ r ∧ r < s → 0 ≤ T c r → nxt n T B c r = T c r := fun c r _ _ h0 => nxt_keep h0
  have n0 := h.n0
  have ha : ∀ c r, 0 ≤ c ∧ c < s → 0 ≤ r ∧ r < s → -1 ≤ nxt n T B c r ∧ nxt n T B c r ≤ n + 1 ∧ (nxt n T B c r = 0 ↔ c = r) := by
    intro c r hc hr
    obtain ⟨a1, a2, a3⟩ := h.a c r hc hr
    unfold nxt
    by_cases e : due T B c r
    · rw [if_pos e]
      have := e.1
      exact ⟨by omega, by omega, fun h0 => by omega, fun h0 => by have := a3.2 h0; omega⟩
    · rw [if_neg e]
      exact ⟨a1, by omega, a3⟩
  refine ⟨by omega, ha, ?_, ?_⟩
  · intro c r hc hr hn y hy h0
    have hyr := hB c hc y hy
    have hle := after_le hB (n := n + 1) (by omega) (fun c r hc hr => (ha c r hc hr).2.1) hyr hr
    have hT : T c r < 0 ∧ ¬ can T B c r = true := by
      unfold nxt at hn
      by_cases e : due T B c r
      · rw [if_pos e] at hn; omega
      · rw [if_neg e] at hn
        exact ⟨hn, fun hc => e ⟨hn, hc⟩⟩
    have hneg : ¬ 0 ≤ after T B y r := fun hh => hT.2 (can_iff.2 ⟨y, hy, hh⟩)
    have hyne : y ≠ r := fun e => hneg (by unfold after; rw [if_pos e]; omega)
    have hneg2 : ¬ 0 ≤ worst (T y) (B r) 0 := by
      unfold after at hneg
      rwa [if_neg hyne] at hneg
    have hex : ∃ z, z ∈ B r ∧ T y z < 0 := Classical.byContradiction (fun hh => hneg2 ((worst_iff (Int.le_refl 0)).2 (fun z hz hn => hh ⟨z, hz, hn⟩)))
    obtain ⟨z, hz, hzn⟩ := hex
    have h0' : 0 ≤ worst (nxt n T B y) (B r) 0 := by
      unfold after at h0
      rwa [if_neg hyne] at h0
    have hp := (worst_iff (Int.le_refl 0)).1 h0'
    have hz1 : nxt n T B y z = n + 1 := by
      have := hp z hz
      unfold nxt at this ⊢
      by_cases e : due T B y z
      · rw [if_pos e]
      · rw [if_neg e] at this
        omega
    have := (worst_pos (f := nxt n T B y) (B r) 0 hp).2.1 z hz
    have he : after (nxt n T B) B y r = worst (nxt n T B y) (B r) 0 := by unfold after; rw [if_neg hyne]
    omega
  · intro c r hc hr h1
    by_cases e : due T B c r
    · have hv : nxt n T B c r = n + 1 := by unfold nxt; rw [if_pos e]
      obtain ⟨y, hy, h0⟩ := can_iff.1 e.2
      refine ⟨y, hy, ?_⟩
      have h2 := h.b c r hc hr e.1 y hy h0
      rw [after_keep hB hk (hB c hc y hy) hr h0, hv]
      omega
    · have hv : nxt n T B c r = T c r := by unfold nxt; rw [if_neg e]
      rw [hv] at h1 ⊢
      obtain ⟨y, hy, h2⟩ := h.c c r hc hr h1
      refine ⟨y, hy, ?_⟩
      rw [after_keep hB hk (hB c hc y hy) hr (by omega)]
      exact h2

/-- The table at the start. -/
def tim0 (c r : Int) : Int := if c = r then 0 else -1
theorem tim_start {s : Int} {B : Int → List Int} (hB : Bal s B) : Tim s B 0 tim0 := by
  have ha : ∀ c r, 0 ≤ c ∧ c < s → 0 ≤ r ∧ r < s → -1 ≤ tim0 c r ∧ tim0 c r ≤ 0 ∧ (tim0 c r = 0 ↔ c = r) := by
    intro c r _ _
    unfold tim0
    by_cases e : c = r
    · rw [if_pos e]; simp [e]
    · rw [if_neg e]; simp [e]
  refine ⟨Int.le_refl _, ha, fun c r hc hr _ y hy h0 => ?_, fun c r hc hr h1 => ?_⟩
  · have := after_le hB (n := 0) (Int.le_refl _) (fun c r hc hr => (ha c r hc hr).2.1) (hB c hc y hy) hr
    omega
  · have := (ha c r hc hr).2.1
    omega

/-- All situations. -/
def sits (s : Int) : List (Int × Int) := (V s).flatMap fun c => (V s).map fun r => (c, r)
theorem mem_sits {s : Int} {p : Int × Int} : p ∈ sits s ↔ (0 ≤ p.1 ∧ p.1 < s) ∧ (0 ≤ p.2 ∧ p.2 < s) := by
  unfold sits
  rw [List.mem_flatMap]
  constructor
  · rintro ⟨c, hc, h⟩
    obtain ⟨r, hr, rfl⟩ := List.mem_map.1 h
    exact ⟨mem_V.1 hc, mem_V.1 hr⟩
  · rintro ⟨h1, h2⟩
    exact ⟨p.1, mem_V.2 h1, List.mem_map.2 ⟨p.2, mem_V.2 h2, rfl⟩⟩
theorem sits_len {s : Int} (h0 : 0 ≤ s) (h8 : s ≤ 8) : (sits s).length ≤ 64 := by
  have : s = 0 ∨ s = 1 ∨ s = 2 ∨ s = 3 ∨ s = 4 ∨ s = 5 ∨ s = 6 ∨ s = 7 ∨ s = 8 := by omega
  rcases this with rfl | rfl | rfl | rfl | rfl | rfl | rfl | rfl | rfl <;> decide
/-- How many situations have no time. -/
def negs (s : Int) (T : Int → Int → Int) : Nat := ((sits s).filter fun p => decide (T p.1 p.2 < 0)).length
theorem filter_le2 {α : Type} {p q : α → Bool} : ∀ (L : List α), (∀ x, x ∈ L → q x = true → p x = true) → (L.filter q).length ≤ (L.filter p).length
  | [], _ => Nat.le_refl _
  | x :: L, h => by
    have ih := filter_le2 L (fun y hy => h y (List.mem_cons_of_mem _ hy))
    have hx := h x List.mem_cons_self
    rw [List.filter_cons, List.filter_cons]
    cases e : q x with
    | true => rw [hx e]; simp; exact ih
    | false => cases p x <;> simp <;> omega
theorem filter_lt2 {α : Type} {p q : α → Bool} : ∀ (L : List α), (∀ x, x ∈ L → q x = true → p x = true) → (∃ x, x ∈ L ∧ p x = true ∧ q x = false) → (L.filter q).length < (L.filter p).length
  | [], _, h => by obtain ⟨_, h, _⟩ := h; cases h
  | x :: L, h, hx => by
    have h' := fun y (hy : y ∈ L) => h y (List.mem_cons_of_mem _ hy)
    have hle := filter_le2 (p := p) (q := q) L h'
    have hxx := h x List.mem_cons_self
    rw [List.filter_cons, List.filter_cons]
    obtain ⟨z, hz, h1, h2⟩ := hx
    rcases List.mem_cons.1 hz with rfl | hz
    · rw [h1, h2]; simp; omega
    · have ih := filter_lt2 L h' ⟨z, hz, h1, h2⟩
      cases e : q x with
      | true => rw [hxx e]; simp; exact ih
      | false => cases p x <;> simp <;> omega
theorem negs_next {s n : Int} {B : Int → List Int} {T : Int → Int → Int} (n0 : 0 ≤ n) (h : ∃ c r, (0 ≤ c ∧ c < s) ∧ (0 ≤ r ∧ r < s) ∧ due T B c r) : negs s (nxt n T B) < negs s T := by
  refine filter_lt2 _ (fun p _ hq => ?_) ?_
  · have := of_decide_eq_true hq
    refine decide_eq_true ?_
    unfold nxt at this
    by_cases e : due T B p.1 p.2
    · exact e.1
    · rwa [if_neg e] at this
  · obtain ⟨c, r, hc, hr, hd⟩ := h
    refine ⟨(c, r), mem_sits.2 ⟨hc, hr⟩, decide_eq_true hd.1, decide_eq_false ?_⟩
    unfold nxt
    rw [if_pos hd]
    omega

/-- A table as a list of rows. -/
def mk (s : Int) (T : Int → Int → Int) : List (List Int) := (V s).map fun c => (V s).map fun r => T c r
theorem mk_len (s : Int) (T : Int → Int → Int) : (mk s T).length = s.toNat := by unfold mk; rw [List.length_map, V_len]
theorem mapV_len {α : Type} (s : Int) (f : Int → α) : ((V s).map f).length = s.toNat := by rw [List.length_map, V_len]
theorem mapV_get {α : Type} (s : Int) (f : Int → α) (i : Int) (d : α) (h0 : 0 ≤ i) (h1 : i < s) : ((V s).map f).getD i.toNat d = f i := by
  rw [List.getD_eq_getElem?_getD, List.getElem?_map]
  have : (V s)[i.toNat]? = some i := by
    unfold V
    rw [List.getElem?_map, List.getElem?_range (by omega)]
    simp
    omega
  rw [this]
  rfl
theorem rd_mapV (s : Int) (f : Int → Int) (i : Int) (h0 : 0 ≤ i) (h1 : i < s) : rd ((V s).map f) i = f i := mapV_get s f i 0 h0 h1
theorem mk_row (s : Int) (T : Int → Int → Int) (c : Int) (h0 : 0 ≤ c) (h1 : c < s) : (mk s T).getD c.toNat [] = (V s).map (T c) := mapV_get s (fun c => (V s).map fun r => T c r) c [] h0 h1
theorem mapV_congr {α : Type} {s : Int} {f g : Int → α} (h : ∀ x, 0 ≤ x ∧ x < s → f x = g x) : (V s).map f = (V s).map g := List.map_congr_left (fun x hx => h x (mem_V.1 hx))
theorem mk_ext {s : Int} {T T' : Int → Int → Int} (h : ∀ c r, 0 ≤ c ∧ c < s → 0 ≤ r ∧ r < s → T c r = T' c r) : mk s T = mk s T' := mapV_congr (fun c hc => mapV_congr (fun r hr => h c r hc hr))
theorem mapV_set {α : Type} (s : Int) (f : Int → α) (i : Int) (x : α) (h0 : 0 ≤ i) : ((V s).map f).set i.toNat x = (V s).map (fun a => if a = i then x else f a) := by
  apply List.ext_getElem?
  intro j
  by_cases hj : j < s.toNat
  · have hv : (V s)[j]? = some (j : Int) := by
      unfold V
      rw [List.getElem?_map, List.getElem?_range hj]
      rfl
    by_cases e : i.toNat = j
    · rw [List.getElem?_set, if_pos e, if_pos (by rw [mapV_len]; omega), List.getElem?_map, hv]
      simp only [Option.map_some]
      rw [if_pos (by omega)]
    · rw [List.getElem?_set, if_neg e, List.getElem?_map, List.getElem?_map, hv]
      simp only [Option.map_some]
      rw [if_neg (by omega)]
  · rw [List.getElem?_eq_none (by rw [List.length_set, mapV_len]; omega), List.getElem?_eq_none (by rw [mapV_len]; omega)]
theorem mk_set {s : Int} (T : Int → Int → Int) (c r v : Int) (hc : 0 ≤ c ∧ c < s) (hr : 0 ≤ r ∧ r < s) : (mk s T).set c.toNat (((V s).map (T c)).set r.toNat v) = mk s (fun a b => if a = c ∧ b = r then v else T a b) := by
  unfold mk
  rw [mapV_set s _ r v hr.1, mapV_set s _ c _ hc.1]
  refine mapV_congr (fun a _ => ?_)
  by_cases e : a = c
  · rw [if_pos e]
    refine mapV_congr (fun b _ => ?_)
    by_cases e2 : b = r
    · simp [e, e2]
    · simp [e, e2]
  · rw [if_neg e]
    exact mapV_congr (fun b _ => by simp [e])
theorem drop_rd (L : List Int) (i : Int) (h0 : 0 ≤ i) (h1 : i < L.length) : L.drop i.toNat = rd L i :: L.drop (i + 1).toNat := by
  have e := rd_eq L i.toNat (by omega)
  rw [Int.toNat_of_nonneg h0] at e
  rw [List.drop_eq_getElem_cons (by omega), e, show (i + 1).toNat = i.toNat + 1 by omega]

end Go.Proofs.Ytmbgpbanbffchaa.Gr
