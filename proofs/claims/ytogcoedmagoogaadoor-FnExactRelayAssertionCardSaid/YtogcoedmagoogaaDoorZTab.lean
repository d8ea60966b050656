/- The library's table of powers of ten: that it lies in the world, and that it lasts. Conditions: the table lies where the call begins. -/
import Derived.Lib.SmallJoins
import Derived.Lib.LaidTab
import Derived.Lib.AppendIntMem
import Derived.Shelf.Strconv.Itoa3
import Derived.Test.YtogcoedmagoogaaDoorProg
namespace Go.Proofs.YtogcoedmagoogaaDoor.Man
open Go Go.RowKit Go.Sort
def Tab (w : World) : Prop := Lib.TabIs Tryd.prog w "internal/strconv.uint64pow10" .u64 Lib.pow10Tab
theorem Tab.tab {w : World} (h : Tab w) : Lib.TabIs Tryd.prog w "internal/strconv.uint64pow10" .u64 Lib.pow10Tab := h
theorem tab_on {w W : World} (h : Tab w) (hb : Below w.heap.size w W) : Tab W := by
  obtain ⟨g, hg⟩ := Option.isSome_iff_exists.1 (show (Tryd.prog.globalNamed "internal/strconv.uint64pow10").isSome = true by kernel_rfl)
  exact Go.Joins.tab_stays hg h hb (Nat.le_refl _)
theorem below_grow (w : World) (k : Nat) (os : Array Obj) : Below w.heap.size w (grow (w.drewN k) os) := Lib.below_grow w.heap.size w (Nat.le_refl _) k os
end Go.Proofs.YtogcoedmagoogaaDoor.Man
