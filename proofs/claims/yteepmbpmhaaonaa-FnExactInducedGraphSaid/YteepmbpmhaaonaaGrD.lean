/- The graph induced on a list of nodes, by both; no conditions beyond those that each theorem names. -/
import Derived.Test.YteepmbpmhaaonaaGrM
import Derived.Test.YteepmbpmhaaonaaGrP
import Derived.Test.YteepmbpmhaaonaaPx13
import Derived.Test.YteepmbpmhaaonaaPx16
namespace Go.Proofs.Yteepmbpmhaaonaa.Gr
open Go.RowKit Go.Proofs.Yteepmbpmhaaonaa.P Go.Proofs.YteepmbpmhaaonaaW.PrintWords Go.Proofs.YteepmbpmhaaonaaW.PrintLast Go.Proofs.YteepmbpmhaaonaaW.PrintMore

/-- Near, by places in a list of nodes. -/
def nearAt (l : List S65) (L : List Int) (x y : Int) : Bool := near l (rd L x) (rd L y)

set_option maxRecDepth 10000 in
theorem ind_row (s : Int) (l : List S65) (hl : l.length ≤ 1048576) (L : List Int) (x n : Int) (rest : List S65) (hn : L.length ≤ 1000) (hx0 : 0 ≤ x) (hxn : x < L.length)
    (hnx : ∀ es : List S65, (es.length : Int) ≤ (x + 1) * 1000 → Ev (fun k => spec_l2Induced.l0 k L (x + 1) s l n es) (n, es ++ rest)) :
    ∀ (d : Nat) (y : Int) (es : List S65), x < y → (L.length : Int) - y = d → (es.length : Int) ≤ x * 1000 + y → Ev (fun k => spec_l2Induced.l1 k L x y s l n es) (n, es ++ (rowF (nearAt l L) x d y ++ rest)) := by
  intro d
  induction d with
  | zero =>
    intro y es hxy hd hes
    have hw : wrap64 (x + 1) = x + 1 := by unfold wrap64; omega
    refine Ev.step (fun k => ?_) (hnx es (by omega))
    simp only [spec_l2Induced.l1]
    rw [if_neg (by omega), hw]
  | succ d ih =>
    intro y es hxy hd hes
    have hw : wrap64 (y + 1) = y + 1 := by unfold wrap64; omega
    have hne := near_ev s l (rd L x) (rd L y) hl
    have e0 : ∀ k, spec_l2Induced.l1 (k + 1) L x y s l n es = (spec_l2Near.f k s l (rd L x) (rd L y)).bind fun t => if t = true then (if es.length < 8796093022208 then spec_l2Induced.l1 k L x (y + 1) s l n (es ++ [⟨x, y⟩]) else none) else spec_l2Induced.l1 k L x (y + 1) s l n es := fun k => by
      simp only [spec_l2Induced.l1]
      rw [if_pos (by omega), if_pos hx0, if_pos hxn, if_pos (by omega), hw]
    refine Ev.step e0 (Ev.bind hne ?_)
    by_cases hc : near l (rd L x) (rd L y) = true
    · have hr := ih (y + 1) (es ++ [⟨x, y⟩]) (by omega) (by omega) (by rw [List.length_append, List.length_singleton]; omega)
      have e : es ++ (rowF (nearAt l L) x (d + 1) y ++ rest) = es ++ [⟨x, y⟩] ++ (rowF (nearAt l L) x d (y + 1) ++ rest) := by
        conv => lhs; unfold rowF
        rw [if_pos (show nearAt l L x y = true from hc)]
        simp
      rw [e]
      refine Ev.congr (fun k => ?_) hr
      rw [if_pos hc, if_pos (by omega)]
    · have hr := ih (y + 1) es (by omega) (by omega) (by omega)
      have e : es ++ (rowF (nearAt l L) x (d + 1) y ++ rest) = es ++ (rowF (nearAt l L) x d (y + 1) ++ rest) := by
        conv => lhs; unfold rowF
        rw [if_neg (show ¬ nearAt l L x y = true from hc)]
        simp
      rw [e]
      refine Ev.congr (fun k => ?_) hr
      rw [if_neg hc]

set_option maxRecDepth 10000 in
theorem ind_all (s : Int) (l : List S65) (hl : l.length ≤ 1048576) (L : List Int) (n : Int) (hn : L.length ≤ 1000) : ∀ (d : Nat) (x : Int) (es : List S65), 0 ≤ x → (L.length : Int) - x = d → (es.length : Int) ≤ x * 1000 → Ev (fun k => spec_l2Induced.l0 k L x s l n es) (n, es ++ allF (nearAt l L) d x) := by
  intro d
  induction d with
  | zero =>
    intro x es hx hd hes
    rw [show allF (nearAt l L) 0 x = [] from rfl, List.append_nil]
    refine Ev.step (f := fun _ => some (n, es)) (fun k => ?_) (Ev.now _)
    simp only [spec_l2Induced.l0]
    rw [if_neg (by omega)]
  | succ d ih =>
    intro x es hx hd hes
    have hw : wrap64 (x + 1) = x + 1 := by unfold wrap64; omega
    have hr := ind_row s l hl L x n (allF (nearAt l L) d (x + 1)) hn hx (by omega) (fun es' he => ih (x + 1) es' (by omega) (by omega) he) d (x + 1) es (by omega) (by omega) (by omega)
    rw [show allF (nearAt l L) (d + 1) x = rowF (nearAt l L) x d (x + 1) ++ allF (nearAt l L) d (x + 1) from rfl]
    refine Ev.step (fun k => ?_) hr
    simp only [spec_l2Induced.l0]
    rw [if_pos (by omega), hw]

theorem ind_spec (s : Int) (l : List S65) (hl : l.length ≤ 1048576) (L : List Int) (hn : L.length ≤ 1000) : Ev (fun k => spec_l2Induced.f k s l L) ((L.length : Int), pairs (nearAt l L) L.length) :=
  ind_all s l hl L L.length hn L.length 0 [] (by omega) (by omega) (by simp)

theorem ind_impl (s : Int) (l : List S65) (hG : Good s l) (m : List Int) (hm : Masks s m) (hb : ∀ u v : Int, 0 ≤ u → u < s → 0 ≤ v → v < 8 → bit (rd m u) v = near l u v)
    (L : List Int) (hn : L.length ≤ 1000) (hL : ∀ x : Int, 0 ≤ x → x < L.length → 0 ≤ rd L x ∧ rd L x < s) : Ev (fun k => impl_net_induced.f k m L) ((L.length : Int), pairs (nearAt l L) L.length) := by
  have h8 := hG.2.1
  have hc : ∀ x y : Int, 0 ≤ x → x < y → y < L.length → impl_graphBy_induced.c m L x y = some (nearAt l L x y) := fun x y h0 h1 h2 => by
    have a := hL x h0 (by omega)
    have b := hL y (by omega) h2
    unfold impl_graphBy_induced.c impl_net_induced_1.f
    rw [if_pos h0, if_pos (by omega), if_pos (by omega), if_pos h2, has_eq s m _ _ hm a.1 a.2 b.1, Option.bind_some, hb _ _ a.1 a.2 b.1 (by omega)]
    rfl
  have hok : okBy (impl_graphBy_induced.c m L) L.length = true := okBy_all _ _ (fun x y h0 h1 h2 => by rw [hc x y h0 h1 h2]; rfl)
  have hp : pairs (fun x y => (impl_graphBy_induced.c m L x y).getD false) L.length = pairs (nearAt l L) L.length := pairs_congr _ _ _ (fun x y h0 h1 h2 => by rw [hc x y h0 h1 h2]; rfl)
  refine Ev.bind (a := ((L.length : Int), pairs (nearAt l L) L.length)) ?_ (Ev.now _)
  obtain ⟨K, hK⟩ := by_ev (fun x y => (impl_graphBy_induced.c m L x y).getD false) L.length (by omega) (by omega)
  dsimp only at hK
  refine ⟨K, fun k hk => ?_⟩
  dsimp only
  unfold impl_graphBy_induced.f
  rw [if_pos ⟨⟨by omega, by omega⟩, hok⟩, hK k hk, hp]
  rfl

end Go.Proofs.Yteepmbpmhaaonaa.Gr
