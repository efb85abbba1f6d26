/-
  What the tables of unicode/utf8 hold, as a premise of the walks.
-/
import Derived.Test.YtkfbdopfeacnfaaDoorShelfU
namespace Go.Proofs.YtkfbdopfeacnfaaDoor.TabsU
open Go Go.RowKit Go.Lib
def Tabs0 (w : World) : Prop := Lib.Utf8Tabs 1 2 w
theorem Tabs0.of_below {w w' : World} (h : Tabs0 w) (hb : Below w.heap.size w w') : Tabs0 w' := Utf8Tabs_below h hb
theorem Tabs0.utf8 {w : World} (h : Tabs0 w) : Lib.Utf8Tabs 1 2 w := h
end Go.Proofs.YtkfbdopfeacnfaaDoor.TabsU
