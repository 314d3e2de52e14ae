/- The pure law FnExactComplementOf: both lay the pairs that are not near, in order. -/
import Derived.Test.YtooeemiljeeoaaaGrM
import Derived.Test.YtooeemiljeeoaaaGrP
import Derived.Test.YtooeemiljeeoaaaGrB
import Derived.Test.YtooeemiljeeoaaaPx19
namespace Go.Proofs.Ytooeemiljeeoaaa.Pure
open Go.RowKit Go.Proofs.Ytooeemiljeeoaaa.P Go.Proofs.YtooeemiljeeoaaaW.PrintWords Go.Proofs.YtooeemiljeeoaaaW.PrintLast Go.Proofs.YtooeemiljeeoaaaW.PrintMore Go.Proofs.Ytooeemiljeeoaaa.Gr

/-- Not near. -/
def far (l : List S57) (x y : Int) : Bool := !near l x y

set_option maxRecDepth 10000 in
theorem comp_row (s : Int) (l : List S57) (hl : l.length ≤ 1048576) (x : Int) (rest : List S57) (hn : s ≤ 1000) (hx0 : 0 ≤ x)
    (hnx : ∀ es : List S57, (es.length : Int) ≤ (x + 1) * 1000 → Ev (fun k => spec_ComplementOf.l0 k (x + 1) s l s es) (s, es ++ rest, true)) :
    ∀ (d : Nat) (y : Int) (es : List S57), x < y → s - y = d → (es.length : Int) ≤ x * 1000 + y → Ev (fun k => spec_ComplementOf.l1 k x y s l s es) (s, es ++ (rowF (far l) x d y ++ rest), true) := by
  intro d
  induction d with
  | zero =>
    intro y es hxy hd hes
    have hw : wrap64 (x + 1) = x + 1 := by unfold wrap64; omega
    refine Ev.step (fun k => ?_) (hnx es (by omega))
    simp only [spec_ComplementOf.l1]
    rw [if_neg (by omega), hw]
  | succ d ih =>
    intro y es hxy hd hes
    have hw : wrap64 (y + 1) = y + 1 := by unfold wrap64; omega
    have hne := near_ev s l x y hl
    by_cases hc : near l x y = true
    · have hr := ih (y + 1) es (by omega) (by omega) (by omega)
      have hf : far l x y = false := by unfold far; rw [hc]; rfl
      have e : es ++ (rowF (far l) x (d + 1) y ++ rest) = es ++ (rowF (far l) x d (y + 1) ++ rest) := by
        conv => lhs; unfold rowF
        rw [hf]
        simp
      rw [e]
      refine Ev.step (f := fun k => (spec_l2Near.f k s l x y).bind fun t => if t = true then spec_ComplementOf.l1 k x (y + 1) s l s es else if es.length < 8796093022208 then spec_ComplementOf.l1 k x (y + 1) s l s (es ++ [⟨x, y⟩]) else none) (fun k => ?_) (Ev.bind hne ?_)
      · simp only [spec_ComplementOf.l1]
        rw [if_pos (by omega), hw]
      · refine Ev.congr (fun k => ?_) hr
        rw [if_pos hc]
    · have hr := ih (y + 1) (es ++ [⟨x, y⟩]) (by omega) (by omega) (by rw [List.length_append, List.length_singleton]; omega)
      have hf : far l x y = true := by unfold far; rw [Bool.eq_false_iff.2 hc]; rfl
      have e : es ++ (rowF (far l) x (d + 1) y ++ rest) = es ++ [⟨x, y⟩] ++ (rowF (far l) x d (y + 1) ++ rest) := by
        conv => lhs; unfold rowF
        rw [hf]
        simp
      rw [e]
      refine Ev.step (f := fun k => (spec_l2Near.f k s l x y).bind fun t => if t = true then spec_ComplementOf.l1 k x (y + 1) s l s es else if es.length < 8796093022208 then spec_ComplementOf.l1 k x (y + 1) s l s (es ++ [⟨x, y⟩]) else none) (fun k => ?_) (Ev.bind hne ?_)
      · simp only [spec_ComplementOf.l1]
        rw [if_pos (by omega), hw]
      · refine Ev.congr (fun k => ?_) hr
        rw [if_neg hc, if_pos (by omega)]

set_option maxRecDepth 10000 in
theorem comp_all (s : Int) (l : List S57) (hl : l.length ≤ 1048576) (hn : s ≤ 1000) : ∀ (d : Nat) (x : Int) (es : List S57), 0 ≤ x → s - x = d → (es.length : Int) ≤ x * 1000 → Ev (fun k => spec_ComplementOf.l0 k x s l s es) (s, es ++ allF (far l) d x, true) := by
  intro d
  induction d with
  | zero =>
    intro x es hx hd hes
    rw [show allF (far l) 0 x = [] from rfl, List.append_nil]
    refine Ev.step (f := fun _ => some (s, es, true)) (fun k => ?_) (Ev.now _)
    simp only [spec_ComplementOf.l0]
    rw [if_neg (by omega)]
  | succ d ih =>
    intro x es hx hd hes
    have hw : wrap64 (x + 1) = x + 1 := by unfold wrap64; omega
    have hr := comp_row s l hl x (allF (far l) d (x + 1)) hn hx (fun es' he => ih (x + 1) es' (by omega) (by omega) he) d (x + 1) es (by omega) (by omega) (by omega)
    rw [show allF (far l) (d + 1) x = rowF (far l) x d (x + 1) ++ allF (far l) d (x + 1) from rfl]
    refine Ev.step (fun k => ?_) hr
    simp only [spec_ComplementOf.l0]
    rw [if_pos (by omega), hw]

/-- Both answer alike. -/
theorem comp_both (s : Int) (l : List S57) (hl : l.length ≤ 1048576) : ∃ n es b, es.length ≤ 1048576 ∧ Ev (fun k => spec_ComplementOf.f k s l) (n, es, b) ∧ Ev (fun k => impl_ComplementOf.f k s l) (n, es, b) := by
  obtain ⟨b, hg, hS, hI⟩ := isGraph_both s l hl
  cases b with
  | false =>
    refine ⟨0, [], false, by simp, ?_, ?_⟩
    · refine Ev.bind hS (Ev.congr (fun k => ?_) (Ev.now _))
      rfl
    · refine Ev.bind hI (Ev.congr (fun k => ?_) (Ev.now _))
      rfl
  | true =>
    have hG := hg rfl
    obtain ⟨m, hm, hb, hN⟩ := net_ev s l hl hG
    have hc : ∀ x y : Int, 0 ≤ x → x < y → y < s → impl_graphBy_ComplementOf.c m x y = some (far l x y) := fun x y h0 h1 h2 => by
      unfold impl_graphBy_ComplementOf.c impl_ComplementOf_1.f
      rw [has_eq s m x y hm h0 (by omega) (by omega), Option.bind_some, hb x y h0 (by omega) (by omega) (by have := hG.2.1; omega)]
      rfl
    have hok : okBy (impl_graphBy_ComplementOf.c m) s = true := okBy_all _ s (fun x y h0 h1 h2 => by rw [hc x y h0 h1 h2]; rfl)
    have hp : pairs (fun x y => (impl_graphBy_ComplementOf.c m x y).getD false) s = pairs (far l) s := pairs_congr _ _ s (fun x y h0 h1 h2 => by rw [hc x y h0 h1 h2]; rfl)
    have h8 := hG.2.1
    have h0 := hG.1
    refine ⟨s, pairs (far l) s, true, by have := pairs_len (far l) s (by omega); omega, ?_, ?_⟩
    · refine Ev.bind hS (Ev.congr (fun k => ?_) (comp_all s l hl (by omega) s.toNat 0 [] (by omega) (by omega) (by simp)))
      rw [if_pos rfl]
    · refine Ev.bind hI (Ev.congr (f := fun k => (impl_netOf.f k s l).bind fun t486 => (impl_graphBy_ComplementOf.f k s t486).bind fun bt490 => some (bt490.1, bt490.2, true)) (fun k => ?_) (Ev.bind hN (Ev.bind (a := (s, pairs (far l) s)) ?_ (Ev.now _))))
      · rw [if_pos rfl]
      · obtain ⟨K, hK⟩ := by_ev (fun x y => (impl_graphBy_ComplementOf.c m x y).getD false) s h0 (by omega)
        dsimp only at hK
        refine ⟨K, fun k hk => ?_⟩
        dsimp only
        unfold impl_graphBy_ComplementOf.f
        rw [if_pos ⟨⟨h0, by omega⟩, hok⟩, hK k hk, hp]
        rfl

theorem FnExactComplementOf : laws_FnExactComplementOf.Pure := by
  intro s l hs hl hx
  by_cases hbig : (1048576 : Int) - l.length < 0
  · refine ⟨0, ?_⟩
    unfold laws_FnExactComplementOf.f
    rw [sz_big s l hl hbig]
    rfl
  have hlen : l.length ≤ 1048576 := by omega
  obtain ⟨n, es, b, hes, ⟨K1, h1⟩, ⟨K2, h2⟩⟩ := comp_both s l hlen
  obtain ⟨K3, h3⟩ := toGraph_ev s l hlen
  obtain ⟨K4, h4⟩ := eqGraph_ev s l hlen
  obtain ⟨K5, h5⟩ := eqGraph_ev n es hes
  obtain ⟨r, ⟨K6, h6⟩, ⟨K7, h7⟩⟩ := mark_held n es hes
  obtain ⟨r', ⟨K8, h8⟩, _⟩ := mark_held s l hlen
  dsimp only at h1 h2 h3 h4 h5 h6 h7 h8
  obtain ⟨K, q1, q2, q3, q4, q5, q6, q7, q8⟩ : ∃ K, K1 ≤ K ∧ K2 ≤ K ∧ K3 ≤ K ∧ K4 ≤ K ∧ K5 ≤ K ∧ K6 ≤ K ∧ K7 ≤ K ∧ K8 ≤ K := ⟨K1 + K2 + K3 + K4 + K5 + K6 + K7 + K8, by omega, by omega, by omega, by omega, by omega, by omega, by omega, by omega⟩
  have e1 : ∀ k, spec_ComplementOf.f (K + k) s l = some (n, es, b) := fun k => h1 _ (by omega)
  have e2 : ∀ k, impl_ComplementOf.f (K + k) s l = some (n, es, b) := fun k => h2 _ (by omega)
  have e3 : ∀ k, laws_toGraph.f (K + k) s l = some (s, l) := fun k => h3 _ (by omega)
  have e4 : ∀ k, laws_eqGraph.f (K + k) s l s l = some true := fun k => h4 _ (by omega)
  have e5 : ∀ k, laws_eqGraph.f (K + k) n es n es = some true := fun k => h5 _ (by omega)
  have e6 : ∀ k, laws_markGraph.f (K + k) n es 1 = some (1 + 2 * (es.length : Int), r) := fun k => h6 _ (by omega)
  have e7 : ∀ k, laws_heldGraph.f (K + k) n r 1 = some (1 + 2 * (es.length : Int)) := fun k => h7 _ (by omega)
  have e8 : ∀ k, laws_markGraph.f (K + k) s l 1 = some (1 + 2 * (l.length : Int), r') := fun k => h8 _ (by omega)
  have a1 : ¬ (1 + 2 * (es.length : Int) < 0) := by omega
  have a2 : ¬ (1 + 2 * (l.length : Int) < 0) := by omega
  have a3 : (b != b) = false := by cases b <;> rfl
  refine ⟨K + 5, ?_⟩
  simp only [laws_FnExactComplementOf.f, laws_FnExactComplementOf.j0, laws_FnExactComplementOf.j1, laws_FnExactComplementOf.j2, sz_small s l hlen, e1, e2, e3, e4, e5, e6, e7, e8, a1, a2, a3, hbig, Option.bind_some, if_true, if_false, Bool.false_eq_true]

end Go.Proofs.Ytooeemiljeeoaaa.Pure
