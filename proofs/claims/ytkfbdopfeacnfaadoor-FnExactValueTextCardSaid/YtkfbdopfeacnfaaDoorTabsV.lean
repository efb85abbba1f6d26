/-
  What the tables of unicode/utf8, the program's table of literals and the table of powers of ten hold, as a premise of the walks.
-/
import Derived.Test.YtkfbdopfeacnfaaDoorTabsR
import Derived.Test.YtkfbdopfeacnfaaDoorTabsI
namespace Go.Proofs.YtkfbdopfeacnfaaDoor.TabsV
open Go Go.RowKit Go.Lib
def Tabs0 (w : World) : Prop := TabsR.Tabs0 w ∧ TabsI.Tabs0 w
theorem Tabs0.of_below {w w' : World} (h : Tabs0 w) (hb : Below w.heap.size w w') : Tabs0 w' := ⟨h.1.of_below hb, h.2.of_below hb⟩
theorem Tabs0.utf8 {w : World} (h : Tabs0 w) : Lib.Utf8Tabs 1 2 w := h.1.utf8
theorem Tabs0.lit {w : World} (h : Tabs0 w) : TabsR.Lit0 w := h.1.lit
theorem Tabs0.pow10 {w : World} (h : Tabs0 w) : Lib.TabIs Tryd.prog w "internal/strconv.uint64pow10" .u64 Lib.pow10Tab := h.2.pow10
end Go.Proofs.YtkfbdopfeacnfaaDoor.TabsV
