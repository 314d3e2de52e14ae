/- The number of a text, by both; no conditions beyond those that each theorem names. -/
import Derived.Test.YtagniekpapmdgaaDoorGrNm
import Derived.Lib.Atoi
import Derived.Lib.AtoiAll
import Derived.Lib.AtoiTie
import Derived.Laws.Strings
import Derived.Test.YtagniekpapmdgaaDoorPxImplParseInt
import Derived.Test.YtagniekpapmdgaaDoorPxSpecL1Read
namespace Go.Proofs.YtagniekpapmdgaaDoor.Gr
open Go.RowKit Go.Proofs.YtagniekpapmdgaaDoor.P Go.Proofs.YtagniekpapmdgaaDoorW.PrintWords Go.Proofs.YtagniekpapmdgaaDoorW.PrintLast

theorem dec_append : ∀ (a : List UInt8) (acc : Nat) (b : List UInt8), Lib.decFrom acc (a ++ b) = (Lib.decFrom acc a).bind fun n => Lib.decFrom n b
  | [], _, _ => rfl
  | x :: a, acc, b => by
    cases h : Lib.digitVal x with
    | none => simp only [List.cons_append, Lib.decFrom, h]; rfl
    | some d => simp only [List.cons_append, Lib.decFrom, h]; exact dec_append a _ b
theorem dig_val : ∀ d : Nat, d < 10 → Lib.digitVal (UInt8.ofNat (48 + d)) = some d := by decide
theorem dec_one (acc d : Nat) (h : d < 10) : Lib.decFrom acc [UInt8.ofNat (48 + d)] = some (acc * 10 + d) := by
  unfold Lib.decFrom
  rw [dig_val d h]
  rfl
theorem dec_dec : ∀ u : Nat, Lib.decFrom 0 (Lib.decDigits u) = some u := by
  intro u
  induction u using Nat.strongRecOn with
  | _ u ih =>
    rw [Lib.decDigits]
    by_cases h : u < 10
    · rw [dif_pos h, dec_one 0 u h]
      congr 1
      omega
    · rw [dif_neg h, dec_append, ih (u / 10) (by omega), Option.bind_some, dec_one _ _ (by omega)]
      congr 1
      omega
theorem dec_pos (u : Nat) : 1 ≤ (Lib.decDigits u).length := by
  rw [Lib.decDigits]
  split <;> simp
theorem dec_byte (u : Nat) (b : UInt8) (h : b ∈ Lib.decDigits u) : ∃ d, Lib.digitVal b = some d := by
  obtain ⟨k, hk⟩ := List.mem_iff_getElem?.1 h
  exact Lib.digit_of_decFrom _ _ _ (dec_dec u) k b hk
theorem digit_not {b : UInt8} {d : Nat} (h : Lib.digitVal b = some d) : b ≠ 45 ∧ b ≠ 43 := by
  constructor
  · intro e
    rw [e, show Lib.digitVal 45 = none by decide] at h
    cases h
  · intro e
    rw [e, show Lib.digitVal 43 = none by decide] at h
    cases h

theorem read_itoa (v : Int) (h0 : -999999 ≤ v) (h1 : v ≤ 999999) : Lib.atoiAll (Lib.itoa v) = .ok v := by
  have hl := tx_len v (by omega) (by omega)
  rw [tx_data] at hl
  rw [Lib.atoiAll_short _ (by omega)]
  have hn : ∀ u : Nat, Lib.decNat (Lib.decDigits u) = some u := fun u => by
    have := dec_pos u
    unfold Lib.decNat
    rw [if_neg (by rw [List.isEmpty_iff]; intro h; rw [h] at this; simp at this)]
    exact dec_dec u
  have ha : Lib.atoi (Lib.itoa v) = some v := by
    unfold Lib.itoa
    by_cases h : v < 0
    · rw [if_pos h]
      unfold Lib.atoi
      dsimp only
      rw [if_pos (by decide), hn]
      show some (-((v.natAbs : Nat) : Int)) = some v
      congr 1
      omega
    · rw [if_neg h]
      have h2 := dec_pos v.toNat
      have h3 := hn v.toNat
      cases hd : Lib.decDigits v.toNat with
      | nil => rw [hd] at h2; simp at h2
      | cons b r =>
        obtain ⟨d, hb⟩ := dec_byte v.toNat b (by rw [hd]; exact List.mem_cons_self)
        obtain ⟨n1, n2⟩ := digit_not hb
        unfold Lib.atoi
        dsimp only
        rw [if_neg (by simpa using n1), if_neg (by simpa using n2), ← hd, h3]
        show some ((v.toNat : Nat) : Int) = some v
        congr 1
        omega
  rw [ha]
  rfl

/-- What both hand back for the bytes of a text. -/
def Num (l : List UInt8) (z : Int × Bool) : Prop := (∃ v : Int, (-999999 ≤ v ∧ v ≤ 999999) ∧ l = Lib.itoa v ∧ z = (v, true)) ∨ ((∀ v : Int, -999999 ≤ v ∧ v ≤ 999999 → l ≠ Lib.itoa v) ∧ z = (0, false))
theorem Num.one {l : List UInt8} {z z' : Int × Bool} (h : Num l z) (h' : Num l z') : z = z' := by
  rcases h with ⟨v, hv, e, rfl⟩ | ⟨hn, rfl⟩ <;> rcases h' with ⟨v', hv', e', rfl⟩ | ⟨hn', rfl⟩
  · have h1 := read_itoa v hv.1 hv.2
    have h2 := read_itoa v' hv'.1 hv'.2
    rw [← e] at h1
    rw [← e', h1] at h2
    injection h2 with h2
    rw [h2]
  · exact (hn' v hv e).elim
  · exact (hn v' hv' e').elim
  · rfl

theorem int_impl (s : ByteArray) (hs : s.size ≤ 1048576) : ∃ z, impl_ParseInt.f s = some z ∧ Num s.data.toList z := by
  unfold impl_ParseInt.f
  rw [if_pos (by omega), ByteArray.toList_eq]
  have no : ∀ v : Int, -999999 ≤ v ∧ v ≤ 999999 → s.data.toList = Lib.itoa v → Lib.atoiAll s.data.toList = .ok v := fun v hv e => by rw [e]; exact read_itoa v hv.1 hv.2
  cases hA : Lib.atoiAll s.data.toList with
  | ok v =>
    dsimp only
    by_cases c : -999999 ≤ v ∧ v ≤ 999999 ∧ Lib.itoa v = s.data.toList
    · rw [if_pos c]
      exact ⟨_, rfl, .inl ⟨v, ⟨c.1, c.2.1⟩, c.2.2.symm, rfl⟩⟩
    · rw [if_neg c]
      refine ⟨_, rfl, .inr ⟨fun v' hv' e => ?_, rfl⟩⟩
      have h2 := no v' hv' e
      rw [hA] at h2
      injection h2 with h2
      subst h2
      exact c ⟨hv'.1, hv'.2, e.symm⟩
  | «syntax» => exact ⟨_, rfl, .inr ⟨fun v' hv' e => (by have h2 := no v' hv' e; rw [hA] at h2; cases h2), rfl⟩⟩
  | range => exact ⟨_, rfl, .inr ⟨fun v' hv' e => (by have h2 := no v' hv' e; rw [hA] at h2; cases h2), rfl⟩⟩

theorem dec_six (u : Nat) (h : u ≤ 999999) : (Lib.decDigits u).length ≤ 6 := dec_len 6 u (by omega) (by omega)

/-- The bytes S, without a sign T. -/
def Sgn (S T : List UInt8) (neg : Bool) : Prop := (neg = true ∧ S = 45 :: T ∧ 1 ≤ T.length) ∨ (neg = false ∧ S = T ∧ ¬ (1 < S.length ∧ S[0]? = some 45))
theorem Sgn.of {S T : List UInt8} {neg : Bool} (h : Sgn S T neg) {v : Int} (e : S = Lib.itoa v) : T = Lib.decDigits v.natAbs ∧ (neg = true ↔ v < 0) := by
  unfold Lib.itoa at e
  rcases h with ⟨rfl, h1, _⟩ | ⟨rfl, h1, h2⟩
  · by_cases hv : v < 0
    · rw [if_pos hv, h1] at e
      injection e with _ e
      exact ⟨e, by simp [hv]⟩
    · rw [if_neg hv, h1] at e
      obtain ⟨d, hd⟩ := dec_byte v.toNat 45 (by rw [← e]; exact List.mem_cons_self)
      exact ((digit_not hd).1 rfl).elim
  · by_cases hv : v < 0
    · rw [if_pos hv] at e
      refine (h2 ?_).elim
      rw [e]
      have := dec_pos v.natAbs
      exact ⟨by rw [List.length_cons]; omega, rfl⟩
    · rw [if_neg hv, h1] at e
      rw [show v.natAbs = v.toNat by omega]
      exact ⟨e, by simp [hv]⟩

theorem int_loop (s t : ByteArray) (neg : Bool) (hsg : Sgn s.data.toList t.data.toList neg) (h6 : t.size ≤ 6) : Cm (fun k => spec_l1Read.l0 k s t 0 0) (Num s.data.toList) := by
  refine Cm.up (fun k i (x : Int) => spec_l1Read.l0 k s t x i) t.size (fun i x => 0 ≤ i ∧ ∃ n : Nat, x = n ∧ Lib.decFrom 0 (t.data.toList.take i.toNat) = some n ∧ n < 10 ^ i.toNat) _ ?_ 0 0 (by omega) ⟨by omega, 0, rfl, rfl, by decide⟩
  rintro i x hi ⟨i0, n, rfl, hd, hn⟩ ih
  have h10 : n < 1000000 := Nat.lt_of_lt_of_le hn (Nat.pow_le_pow_right (n := 10) (by decide) (show i.toNat ≤ 6 by omega))
  by_cases h : i < (t.size : Int)
  · obtain ⟨b, hb, eb⟩ := bt_data t i i0 h
    have hu := b.toNat_lt
    have bad : Lib.digitVal b = none → Num s.data.toList (0, false) := fun hv => .inr ⟨fun v _ e => by
      obtain ⟨e2, _⟩ := hsg.of e
      obtain ⟨d, hd⟩ := dec_byte v.natAbs b (by rw [← e2]; exact List.mem_of_getElem? hb)
      exact absurd (hv.symm.trans hd) (by simp), rfl⟩
    refine Cm.step (fun k => by simp only [spec_l1Read.l0, if_pos h, if_pos i0, eb]; try rfl) ?_
    refine Cm.ite (fun c => Cm.now (bad ?_)) (fun c1 => Cm.ite (fun c => Cm.now (bad ?_)) (fun c2 => ?_))
    · unfold Lib.digitVal; rw [if_neg (by omega)]
    · unfold Lib.digitVal; rw [if_neg (by omega)]
    · have hv : Lib.digitVal b = some (b.toNat - 48) := by unfold Lib.digitVal; rw [if_pos (by omega)]
      rw [w64 (10 * (n : Int)) (by omega) (by omega), show ((b.toNat : Int) - 48) % 256 = ((b.toNat - 48 : Nat) : Int) by omega, w64 _ (by omega) (by omega), w64 (i + 1) (by omega) (by omega)]
      refine ih _ h ⟨by omega, n * 10 + (b.toNat - 48), by omega, ?_, ?_⟩
      · rw [show (i + 1).toNat = i.toNat + 1 by omega]
        exact Lib.decFrom_take _ _ _ _ _ _ hd hb hv
      · rw [show (i + 1).toNat = i.toNat + 1 by omega, Nat.pow_succ]
        omega
  · rw [List.take_of_length_le (by rw [← ba_size]; omega)] at hd
    refine Cm.step (fun k => by simp only [spec_l1Read.l0, if_neg h]; try rfl) ?_
    have val : ∀ v : Int, s.data.toList = Lib.itoa v → v.natAbs = n ∧ (neg = true ↔ v < 0) := fun v e => by
      obtain ⟨e2, e3⟩ := hsg.of e
      rw [e2, dec_dec] at hd
      injection hd with hd
      exact ⟨hd, e3⟩
    have last : ∀ w : Int, (w = (if neg = true then -(n : Int) else (n : Int))) → Cm (fun k => (spec_l1Num.f k w).bind fun t102 => if t102.toList = s.toList then some (w, true) else some (0, false)) (Num s.data.toList) := fun w hw => by
      have hwr : -999999 ≤ w ∧ w ≤ 999999 := by cases neg <;> simp at hw <;> omega
      refine Cm.bindE (num_ev w (by omega) (by omega)) ?_
      rw [ByteArray.toList_eq, ByteArray.toList_eq, tx_data]
      refine Cm.ite (fun c => Cm.now (.inl ⟨w, hwr, c.symm, rfl⟩)) (fun c => Cm.now (.inr ⟨fun v _ e => ?_, rfl⟩))
      obtain ⟨e1, e2⟩ := val v e
      have : v = w := by
        rw [hw]
        cases neg with
        | true => have := e2.1 rfl; simp; omega
        | false =>
          have : ¬ v < 0 := fun h' => Bool.noConfusion (e2.2 h')
          simp
          omega
      rw [this] at e
      exact c e.symm
    rcases hsg with ⟨rfl, h1, _⟩ | ⟨rfl, h1, _⟩
    · have hsz : (t.size : Int) < (s.size : Int) := by rw [ba_size s, h1, List.length_cons, ← ba_size]; omega
      refine Cm.pos hsz ?_
      rw [w64 (-(n : Int)) (by omega) (by omega)]
      exact last _ rfl
    · have hsz : ¬ (t.size : Int) < (s.size : Int) := by rw [ba_size s, h1, ← ba_size]; omega
      exact Cm.neg hsz (last _ rfl)

theorem int_j1 (s t : ByteArray) (neg : Bool) (hsg : Sgn s.data.toList t.data.toList neg) : Cm (fun k => spec_l1Read.j1 k s t) (Num s.data.toList) := by
  refine Cm.step (fun k => by simp only [spec_l1Read.j1, in_eq, Option.bind_some]; try rfl) ?_
  by_cases h : (1 : Int) ≤ (t.size : Int) ∧ (t.size : Int) ≤ 6
  · exact Cm.pos (decide_eq_true h) (int_loop s t neg hsg (by omega))
  · refine Cm.neg (by rw [decide_eq_false h]; decide) (Cm.now (.inr ⟨fun v hv e => ?_, rfl⟩))
    obtain ⟨e2, _⟩ := hsg.of e
    have h1 := dec_pos v.natAbs
    have h2 := dec_six v.natAbs (by omega)
    rw [← e2, ← ba_size] at h1 h2
    exact h ⟨by omega, by omega⟩

theorem int_spec (s : ByteArray) : Cm (fun k => spec_l1Read.f k s) (Num s.data.toList) := by
  unfold spec_l1Read.f
  refine Cm.ite (fun h => Cm.pos (by omega) ?_) (fun h => ?_)
  · obtain ⟨b, hb, eb⟩ := bt_data s 0 (by omega) (by omega)
    rw [eb]
    by_cases e : (b.toNat : Int) = 45
    · rw [show ((b.toNat : Int) == 45) = true from beq_iff_eq.2 e]
      refine Cm.step (fun k => by simp only [spec_l1Read.j0, if_true]; try rfl) (Cm.pos (by omega) (int_j1 s _ true (.inl ⟨rfl, ?_, ?_⟩)))
      · rw [Lib.extract_to_end]
        have := dropB s.data.toList 0 b (by omega) hb
        rw [show (0 : Int).toNat = 0 from rfl, List.drop_zero] at this
        rw [show (0 + 1 : Int).toNat = 1 from rfl] at this
        have h45 : b = 45 := u8_eq (b := 45) e
        rw [← h45]
        exact this
      · rw [Lib.extract_to_end, List.length_drop, ← ba_size]
        omega
    · rw [show ((b.toNat : Int) == 45) = false from beq_eq_false_iff_ne.2 e]
      refine Cm.step (fun k => by simp only [spec_l1Read.j0, Bool.false_eq_true, if_false]; try rfl) (int_j1 s s false (.inr ⟨rfl, rfl, fun h2 => ?_⟩))
      rw [show (0 : Int).toNat = 0 from rfl, h2.2] at hb
      injection hb with hb
      rw [← hb] at e
      exact e rfl
  · refine Cm.step (fun k => by simp only [spec_l1Read.j0, Bool.false_eq_true, if_false]; try rfl) (int_j1 s s false (.inr ⟨rfl, rfl, fun h2 => ?_⟩))
    rw [← ba_size] at h2
    omega

/-- Both read a number alike. -/
theorem int_both (s : ByteArray) (hs : s.size ≤ 1048576) : ∃ v b, Num s.data.toList (v, b) ∧ Ev (fun k => spec_l1Read.f k s) (v, b) ∧ impl_ParseInt.f s = some (v, b) := by
  obtain ⟨⟨v, b⟩, h1, h2⟩ := int_impl s hs
  exact ⟨v, b, h2, Cm.ev (Cm.mono (int_spec s) (fun z hz => hz.one h2)), h1⟩

end Go.Proofs.YtagniekpapmdgaaDoor.Gr
