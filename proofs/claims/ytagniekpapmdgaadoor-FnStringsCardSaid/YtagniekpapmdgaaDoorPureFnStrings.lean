/- The pure law FnStrings: what is written is read again, what is sealed is opened, and a sealed text with one byte changed is not. -/
import Derived.Test.YtagniekpapmdgaaDoorGrDt
import Derived.Test.YtagniekpapmdgaaDoorGrSc
import Derived.Test.YtagniekpapmdgaaDoorPxImplFormatInt
import Derived.Test.YtagniekpapmdgaaDoorPxImplParseInt
import Derived.Test.YtagniekpapmdgaaDoorPxLawsFnStrings
import Derived.Test.YtagniekpapmdgaaDoorPxLawsVAt
import Derived.Test.YtagniekpapmdgaaDoorPxLawsVBig
import Derived.Test.YtagniekpapmdgaaDoorPxSpecDrawAppendChecksum
import Derived.Test.YtagniekpapmdgaaDoorPxSpecDrawFormatInt
import Derived.Test.YtagniekpapmdgaaDoorPxSpecDrawParseInt
import Derived.Test.YtagniekpapmdgaaDoorPxSpecFormatInt
import Derived.Test.YtagniekpapmdgaaDoorPxSpecParseInt
import Derived.Test.YtagniekpapmdgaaDoorPxStrconvItoa19
namespace Go.Proofs.YtagniekpapmdgaaDoor.Pure
open Go.RowKit Go.Proofs.YtagniekpapmdgaaDoor.P Go.Proofs.YtagniekpapmdgaaDoorW.PrintWords Go.Proofs.YtagniekpapmdgaaDoorW.PrintLast Go.Proofs.YtagniekpapmdgaaDoorW.PrintMore Go.Proofs.YtagniekpapmdgaaDoor.Gr

theorem amongS_cm {C : List Int} (hC : Code8 C) (a s : Int) (l : List Int) (h0 : 0 ≤ a) (h1 : a ≤ 100000000) (hn : 1 ≤ l.length) (hN : l.length ≤ 1000) : Cm (fun _ => spec_l1Cur_among.f C a s l) (fun _ => True) := by
  unfold spec_l1Cur_among.f
  refine Cm.bind (pick_cm hC a s l.length h0 h1 (by omega) (by omega)) ?_
  rintro ⟨x, a1, s1⟩ ⟨x0, x1, x2, x3⟩
  dsimp only at x0 x1 x2 x3 ⊢
  exact Cm.pos x0 (Cm.pos x1 (Cm.now trivial))
theorem drawFmt_cm {C : List Int} (hC : Code8 C) : Cm (fun _ => spec_DrawFormatInt.f C) (fun _ => True) := by
  unfold spec_DrawFormatInt.f spec_DrawFormatInt.st
  refine Cm.bind (P := fun _ => True) ?_ (fun r h => Cm.now h)
  refine Cm.bind (pick_cm hC 0 0 1000 (by omega) (by omega) (by omega) (by omega)) ?_
  rintro ⟨x, a, s⟩ ⟨x0, x1, a0, a1⟩
  dsimp only at x0 x1 a0 a1 ⊢
  exact Cm.bind (amongS_cm hC a s _ (by omega) (by omega) (by simp) (by simp)) (fun r _ => Cm.now trivial)
theorem drawInt_cm {C : List Int} (hC : Code8 C) : Cm (fun k => spec_DrawParseInt.f k C) (fun r => r.size ≤ 20) := by
  unfold spec_DrawParseInt.f spec_DrawParseInt.st
  refine Cm.bind (P := fun r => r.1.size ≤ 20) ?_ (fun r h => Cm.now h)
  refine Cm.bind (one_cm hC 0 0 2 (by omega) (by omega) (by omega) (by omega)) ?_
  rintro ⟨b, a, s⟩ ⟨a0, a1⟩
  dsimp only at a0 a1 ⊢
  refine Cm.ite (fun _ => Cm.bind (of_cm hC a s _ (by omega) (by omega) (by decide) (by decide)) ?_) (fun _ => Cm.bind (pick_cm hC a s 2000 (by omega) (by omega) (by omega) (by omega)) ?_)
  · rintro ⟨r, a2, s2⟩ ⟨hr, _⟩
    dsimp only at hr ⊢
    refine Cm.now ?_
    dsimp only
    revert hr
    simp only [List.mem_cons, List.not_mem_nil, or_false]
    rintro (h | h | h | h | h | h | h | h | h | h | h) <;> (rw [h]; decide)
  · rintro ⟨x, a2, s2⟩ ⟨x0, x1, _, _⟩
    dsimp only at x0 x1 ⊢
    rw [w64 (x - 1000) (by omega) (by omega)]
    refine Cm.bindE (num_ev (x - 1000) (by omega) (by omega)) (Cm.now ?_)
    have h := tx_len (x - 1000) (by omega) (by omega)
    have e : (tx (x - 1000)).size = (tx (x - 1000)).data.toList.length := rfl
    dsimp only
    omega
theorem drawApp_cm {C : List Int} (hC : Code8 C) : Cm (fun _ => spec_DrawAppendChecksum.f C) (fun r => r.size ≤ 10000) := by
  unfold spec_DrawAppendChecksum.f spec_DrawAppendChecksum.st
  refine Cm.bind (P := fun r => r.1.size ≤ 10000) ?_ (fun r h => Cm.now h)
  refine Cm.bind (one_cm hC 0 0 20 (by omega) (by omega) (by omega) (by omega)) ?_
  rintro ⟨b, a, s⟩ ⟨a0, a1⟩
  dsimp only at a0 a1 ⊢
  refine Cm.ite (fun _ => Cm.bind (pick_cm hC a s 10 (by omega) (by omega) (by omega) (by omega)) ?_) (fun _ => Cm.bind (any1_cm hC a s (by omega) (by omega)) ?_)
  · rintro ⟨x, a2, s2⟩ ⟨x0, x1, _, _⟩
    dsimp only at x0 x1 ⊢
    rw [w64 (3990 + x) (by omega) (by omega)]
    refine Cm.pos (by omega) (Cm.pos (by omega) (Cm.now ?_))
    dsimp only
    rw [strOfNums_size, List.length_replicate]
    omega
  · rintro ⟨r, a2, s2⟩ ⟨hr, _⟩
    exact Cm.now (by dsimp only at hr ⊢; omega)

/-- What FormatInt answers. -/
def fmt (n : Int) : ByteArray × Bool := if -999999 ≤ n ∧ n ≤ 999999 then (tx n, true) else (⟨#[]⟩, false)
theorem fmt_spec (n : Int) : Ev (fun k => spec_FormatInt.f k n) (fmt n) := by
  refine Cm.ev ?_
  unfold spec_FormatInt.f fmt
  rw [in_eq]
  by_cases h : -999999 ≤ n ∧ n ≤ 999999
  · rw [decide_eq_true h, if_pos h]
    exact Cm.bindE (Ev.now _) (Cm.pos rfl (Cm.bindE (num_ev n (by omega) (by omega)) (Cm.now rfl)))
  · rw [decide_eq_false h, if_neg h]
    exact Cm.bindE (Ev.now _) (Cm.neg (by decide) (Cm.now rfl))
theorem fmt_impl (n : Int) : impl_FormatInt.f n = some (fmt n) := by
  unfold fmt
  by_cases h : -999999 ≤ n ∧ n ≤ 999999
  · unfold impl_FormatInt.f strconv_Itoa_19.f
    rw [within_eq, decide_eq_true h, if_pos ⟨by omega, by omega⟩, if_pos h]
    rfl
  · unfold impl_FormatInt.f
    rw [within_eq, decide_eq_false h, if_neg h]
    rfl

theorem vAt_ok {C : List Int} (hC : Code8 C) (i : Int) (h0 : 0 ≤ i) (h1 : i ≤ 100) : ∃ t, laws_vAt.f C i = some t ∧ 0 ≤ t ∧ t ≤ 255 := by
  have hl := hC.1
  have h8 := rd8 hC i
  unfold laws_vAt.f
  by_cases h : i < C.length
  · rw [if_pos h, if_pos h0, w64 _ (by omega) (by omega)]
    exact ⟨_, rfl, h8⟩
  · rw [if_neg h, w64 (i * 7) (by omega) (by omega), w64 (i * 7 + (C.length : Int)) (by omega) (by omega)]
    refine ⟨_, rfl, ?_⟩
    rw [Int.tmod_eq_emod_of_nonneg (by omega)]
    omega

theorem xor_u8 (a d : Nat) (ha : a < 256) (hd : d < 256) : Go.bits .xor .u8 (a : Int) (d : Int) = ((a ^^^ d : Nat) : Int) := by
  have ha' : a % 2 ^ IntKind.u8.bits = a := Nat.mod_eq_of_lt ha
  have hd' : d % 2 ^ IntKind.u8.bits = d := Nat.mod_eq_of_lt hd
  simp only [Go.bits, BitVec.ofInt_natCast, BitVec.toNat_xor, BitVec.toNat_ofNat, ha', hd']
  have h := Nat.xor_lt_two_pow (n := 8) ha hd
  show ((a ^^^ d : Nat) : Int) % 256 = _
  omega

theorem spoilt (x : ByteArray) (hx : (35 : UInt8) ∉ x.data.toList) (i d : Int) (i0 : 0 ≤ i) (i1 : i < (bytesOf (sld x)).length) (d0 : 1 ≤ d) (d1 : d ≤ 255) : opn (strOfNums ((bytesOf (sld x)).set i.toNat (Go.bits .xor .u8 (rd (bytesOf (sld x)) i) d))) = (⟨#[]⟩, false) := by
  have hl : (bytesOf (sld x)).length = (sld x).data.toList.length := by unfold bytesOf; rw [List.length_map]
  have hk : i.toNat < (sld x).data.toList.length := by omega
  obtain ⟨a, hA⟩ : ∃ a : UInt8, a = (sld x).data.toList[i.toNat] := ⟨_, rfl⟩
  have hrd : rd (bytesOf (sld x)) i = (a.toNat : Int) := by
    unfold rd bytesOf
    rw [List.getD_eq_getElem?_getD, List.getElem?_map, List.getElem?_eq_getElem hk, ← hA]
    rfl
  have hb := a.toNat_lt
  have hd : d = (d.toNat : Int) := by omega
  rw [hrd, hd, xor_u8 a.toNat d.toNat hb (by omega)]
  have hlt : a.toNat ^^^ d.toNat < 256 := Nat.xor_lt_two_pow (n := 8) hb (by omega)
  refine opn_spoilt x _ hx i.toNat (UInt8.ofNat (a.toNat ^^^ d.toNat)) hk (fun e => ?_) ?_
  · rw [← hA] at e
    have e2 : a.toNat ^^^ d.toNat = a.toNat := by
      have := congrArg UInt8.toNat e
      rw [UInt8.toNat_ofNat'] at this
      omega
    have e3 : d.toNat = 0 := by
      have : a.toNat ^^^ (a.toNat ^^^ d.toNat) = a.toNat ^^^ a.toNat := by rw [e2]
      rwa [← Nat.xor_assoc, Nat.xor_self, Nat.zero_xor] at this
    omega
  · rw [strOfNums_data, List.map_set]
    congr 1
    · unfold bytesOf
      rw [List.map_map]
      have : ((fun n : Int => UInt8.ofNat n.toNat) ∘ fun b : UInt8 => (b.toNat : Int)) = id := by
        funext b
        simp
      rw [this, List.map_id]
theorem opened (x : ByteArray) (hx : (35 : UInt8) ∉ x.data.toList) (hs : (sld x).size ≤ 4000) : opn (sld x) = (x, true) := by
  have e : Go.Proofs.YtagniekpapmdgaaDoor.Gr.ahead (sld x) = x := by
    unfold Go.Proofs.YtagniekpapmdgaaDoor.Gr.ahead
    rw [sld_data, List.append_assoc, List.singleton_append, cut_some hx]
  unfold opn
  rw [e, if_pos ⟨hs, rfl⟩]

theorem FnStrings : laws_FnStrings.Pure := by
  intro C _ hx
  refine Ev.rounds (Cm.ev ?_)
  unfold laws_FnStrings.f laws_vBig.f
  refine Cm.bindE (Ev.now _) (Cm.ite (fun _ => Cm.now rfl) (fun h => ?_))
  have hU : Code8 C := code_of (by rw [decide_eq_true_eq] at h; omega) hx
  have nb : ∀ q : Bool, ¬ (q != q) = true := fun q => by cases q <;> decide
  refine Cm.bind (drawFmt_cm hU) ?_
  intro n _
  rw [fmt_impl n]
  refine Cm.bindE (Ev.now _) (Cm.bindE (fmt_spec n) (Cm.bind (drawInt_cm hU) ?_))
  intro t ht
  obtain ⟨v, b, _, E1, E2⟩ := int_both t (by omega)
  have E3 : Ev (fun k => spec_ParseInt.f k t) (v, b) := by
    refine Cm.ev ?_
    unfold spec_ParseInt.f
    exact Cm.bindE E1 (Cm.now rfl)
  rw [E2]
  refine Cm.bindE (Ev.now _) (Cm.bindE E3 (Cm.bind (drawApp_cm hU) ?_))
  intro x hxs
  refine Cm.bindE (app_impl x (by omega)) (Cm.bindE (app_spec x (by omega)) (Cm.pos rfl (Cm.neg (nb _) (Cm.pos rfl (Cm.neg (nb _) (Cm.pos rfl ?_))))))
  rw [show ((app x).2 != (app x).2) = false from by cases (app x).2 <;> rfl]
  have last : Cm (fun k => laws_FnStrings.j1 k C x (app x).1 (app x).2 false) (fun z => z = true) := by
    refine Cm.step (fun k => by simp only [laws_FnStrings.j1, Bool.false_eq_true, if_false]; try rfl) ?_
    by_cases hc : x.size ≤ 4000 ∧ (35 : UInt8) ∉ x.data.toList ∧ (sld x).size ≤ 4000
    · have e : app x = (sld x, true) := if_pos hc
      rw [e]
      dsimp only
      obtain ⟨c1, c2, c3⟩ := hc
      have hz := sld_size x
      have hl : (bytesOf (sld x)).length = (sld x).size := by unfold bytesOf; rw [List.length_map]; rfl
      obtain ⟨t9, e9, p0, p1⟩ := vAt_ok hU 9 (by omega) (by omega)
      obtain ⟨t10, e10, q0, q1⟩ := vAt_ok hU 10 (by omega) (by omega)
      have hm : Int.tmod t10 255 = t10 % 255 := Int.tmod_eq_emod_of_nonneg q0
      have hi : Int.tmod t9 ((bytesOf (sld x)).length : Int) = t9 % ((bytesOf (sld x)).length : Int) := Int.tmod_eq_emod_of_nonneg p0
      have i0 : 0 ≤ t9 % ((bytesOf (sld x)).length : Int) := Int.emod_nonneg _ (by omega)
      have i1 : t9 % ((bytesOf (sld x)).length : Int) < ((bytesOf (sld x)).length : Int) := Int.emod_lt_of_pos _ (by omega)
      have hd : (wrap64 (1 + Int.tmod t10 255)) % 256 = 1 + t10 % 255 := by
        rw [hm, w64 _ (by omega) (by omega)]
        omega
      refine Cm.pos rfl (Cm.bindE (opn_impl (sld x) (by omega)) ?_)
      rw [opened x c2 c3]
      refine Cm.bindE (Ev.now _) ?_
      rw [e9]
      refine Cm.bindE (Ev.now _) (Cm.neg (by omega) ?_)
      rw [hi]
      refine Cm.pos i0 (Cm.pos i1 ?_)
      rw [e10]
      refine Cm.bindE (Ev.now _) ?_
      rw [hd]
      refine Cm.bindE (opn_impl _ (by rw [strOfNums_size, List.length_set, hl]; omega)) ?_
      rw [spoilt x c2 _ _ i0 i1 (by omega) (by omega)]
      exact Cm.pos rfl (Cm.pos rfl (Cm.now rfl))
    · have e : app x = (⟨#[]⟩, false) := if_neg hc
      rw [e]
      refine Cm.neg (by decide) (Cm.now ?_)
      dsimp only
      first | decide | (unfold ByteArray.toList ByteArray.toList.loop; rfl) | simp [ByteArray.toList, ByteArray.toList.loop]
  refine Cm.step (fun k => by simp only [laws_FnStrings.j0, Bool.false_eq_true, if_false]; try rfl) ?_
  by_cases hn : -999999 ≤ n ∧ n ≤ 999999
  · have e : fmt n = (tx n, true) := if_pos hn
    rw [e]
    have hlen := tx_len n (by omega) (by omega)
    have hsz : (tx n).size = (tx n).data.toList.length := rfl
    obtain ⟨v', b', hN, _, E4⟩ := int_both (tx n) (by omega)
    rw [tx_data] at hN
    have e2 : (v', b') = (n, true) := Num.one hN (.inl ⟨n, hn, rfl, rfl⟩)
    rw [E4, e2]
    refine Cm.bindE (Ev.now _) (Cm.pos rfl (Cm.pos rfl ?_))
    dsimp only
    rw [bne_self_eq_false]
    exact last
  · have e : fmt n = (⟨#[]⟩, false) := if_neg hn
    rw [e]
    obtain ⟨v', b', _, _, E4⟩ := int_both (⟨#[]⟩ : ByteArray) (by decide)
    rw [E4]
    exact Cm.bindE (Ev.now _) (Cm.neg (by decide) last)

end Go.Proofs.YtagniekpapmdgaaDoor.Pure
