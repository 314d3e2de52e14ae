/- What the library's variables hold stays so where memory grows; no conditions beyond those that each theorem names. -/
import Derived.Test.YtagniekpapmdgaaDoorWd
import Derived.Test.YtagniekpapmdgaaDoorProg
import Derived.Lib.SmallJoins
import Derived.Lib.ItoaNum
import Derived.Lib.LaidTab
namespace Go.Proofs.YtagniekpapmdgaaDoor.P
open Go.RowKit Go.Proofs.YtagniekpapmdgaaDoorW.PrintWords Go.Proofs.YtagniekpapmdgaaDoorW.PrintLast

/-- The table of tens lies. -/
def VarT (w : World) : Prop := Lib.TabIs Tryd.prog w "internal/strconv.uint64pow10" .u64 Lib.pow10Tab
/-- The bound of the search for bytes lies. -/
def VarM (w : World) : Prop := ∃ m : Int, w.cell? ⟨2, 0, none⟩ = some (.int .i64 m)
/-- The two errors lie. -/
def VarE (w : World) : Prop := (∃ ev, w.cell? ⟨0, 0, none⟩ = some ev ∧ (ev = .nilIface ∨ ∃ te pe, ev = .iface te pe)) ∧ ∃ ev, w.cell? ⟨1, 0, none⟩ = some ev ∧ (ev = .nilIface ∨ ∃ te pe, ev = .iface te pe)
theorem VarT.on {w w' : World} (h : VarT w) (hb : Below w.heap.size w w') : VarT w' := Joins.tab_stays (g := 3) (by kernel_rfl) h hb (Nat.le_refl _)
theorem VarM.on {w w' : World} (h : VarM w) (hb : Below w.heap.size w w') : VarM w' := by
  obtain ⟨m, h⟩ := h
  exact ⟨m, pw_cell_below hb h⟩
theorem VarE.on {w w' : World} (h : VarE w) (hb : Below w.heap.size w w') : VarE w' := by
  obtain ⟨⟨v1, h1, k1⟩, v2, h2, k2⟩ := h
  exact ⟨⟨v1, pw_cell_below hb h1, k1⟩, v2, pw_cell_below hb h2, k2⟩

end Go.Proofs.YtagniekpapmdgaaDoor.P
