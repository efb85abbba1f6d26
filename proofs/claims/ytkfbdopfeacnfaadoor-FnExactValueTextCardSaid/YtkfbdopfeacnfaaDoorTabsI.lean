/-
  What the table of powers of ten holds, as a premise of the walks.
-/
import Derived.Test.YtkfbdopfeacnfaaDoorShelfI
namespace Go.Proofs.YtkfbdopfeacnfaaDoor.TabsI
open Go Go.RowKit Go.Lib
def Tabs0 (w : World) : Prop := Lib.TabIs Tryd.prog w "internal/strconv.uint64pow10" .u64 Lib.pow10Tab
theorem Tabs0.of_below {w w' : World} (h : Tabs0 w) (hb : Below w.heap.size w w') : Tabs0 w' := by
  have hg : Tryd.prog.globalNamed "internal/strconv.uint64pow10" = some 3 := by kernel_rfl
  unfold Tabs0 Lib.TabIs World.var? at h ⊢
  simp only [hg, Option.bind_some] at h ⊢
  have hl : 3 < w.heap.size := by
    rcases Nat.lt_or_ge 3 w.heap.size with q | q
    · exact q
    · rw [Array.getElem?_eq_none q] at h; cases h
  rw [hb.block _ hl]
  exact h
theorem Tabs0.pow10 {w : World} (h : Tabs0 w) : Lib.TabIs Tryd.prog w "internal/strconv.uint64pow10" .u64 Lib.pow10Tab := h
end Go.Proofs.YtkfbdopfeacnfaaDoor.TabsI
