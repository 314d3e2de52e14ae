/- Lists over the nodes, told by a function; no conditions beyond those that each theorem names. -/
import Derived.Test.YtmbgpbanbffchaaGrL
namespace Go.Proofs.Ytmbgpbanbffchaa.Gr
open Go.RowKit Go.Proofs.Ytmbgpbanbffchaa.P Go.Proofs.YtmbgpbanbffchaaW.PrintWords Go.Proofs.YtmbgpbanbffchaaW.PrintLast Go.Proofs.YtmbgpbanbffchaaW.PrintMore

theorem mapV_len {α : Type} (s : Int) (f : Int → α) : ((V s).map f).length = s.toNat := by rw [List.length_map, V_len]
theorem mapV_get {α : Type} (s : Int) (f : Int → α) (i : Int) (d : α) (h0 : 0 ≤ i) (h1 : i < s) : ((V s).map f).getD i.toNat d = f i := by
  rw [List.getD_eq_getElem?_getD, List.getElem?_map]
  have : (V s)[i.toNat]? = some i := by
    unfold V
    rw [List.getElem?_map, List.getElem?_range (by omega)]
    simp
    omega
  rw [this]
  rfl
theorem rd_mapV (s : Int) (f : Int → Int) (i : Int) (h0 : 0 ≤ i) (h1 : i < s) : rd ((V s).map f) i = f i := mapV_get s f i 0 h0 h1
theorem mapV_congr {α : Type} {s : Int} {f g : Int → α} (h : ∀ x, 0 ≤ x ∧ x < s → f x = g x) : (V s).map f = (V s).map g := List.map_congr_left (fun x hx => h x (mem_V.1 hx))
theorem mapV_set {α : Type} (s : Int) (f : Int → α) (i : Int) (x : α) (h0 : 0 ≤ i) : ((V s).map f).set i.toNat x = (V s).map (fun a => if a = i then x else f a) := by
  apply List.ext_getElem?
  intro j
  by_cases hj : j < s.toNat
  · have hv : (V s)[j]? = some (j : Int) := by
      unfold V
      rw [List.getElem?_map, List.getElem?_range hj]
      rfl
    by_cases e : i.toNat = j
    · rw [List.getElem?_set, if_pos e, if_pos (by rw [mapV_len]; omega), List.getElem?_map, hv]
      simp only [Option.map_some]
      rw [if_pos (by omega)]
    · rw [List.getElem?_set, if_neg e, List.getElem?_map, List.getElem?_map, hv]
      simp only [Option.map_some]
      rw [if_neg (by omega)]
  · rw [List.getElem?_eq_none (by rw [List.length_set, mapV_len]; omega), List.getElem?_eq_none (by rw [mapV_len]; omega)]

end Go.Proofs.Ytmbgpbanbffchaa.Gr
