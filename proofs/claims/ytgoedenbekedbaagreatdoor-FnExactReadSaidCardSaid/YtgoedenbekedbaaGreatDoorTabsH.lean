/-
  What the walks of the heads' texts ask of the package's variables: the powers of ten, an error each, some int.
-/
import Derived.Test.YtgoedenbekedbaaGreatDoorTabsI
import Derived.Test.YtgoedenbekedbaaGreatDoorTabsS
import Derived.Test.YtgoedenbekedbaaGreatDoorTabsA
namespace Go.Proofs.YtgoedenbekedbaaGreatDoor.TabsH
open Go Go.RowKit Go.Lib
def Tabs0 (w : World) : Prop := TabsI.Tabs0 w ∧ TabsS.Tabs0 w ∧ TabsA.Tabs0 w
theorem Tabs0.of_below {w w' : World} (h : Tabs0 w) (hb : Below w.heap.size w w') : Tabs0 w' := ⟨h.1.of_below hb, h.2.1.of_below hb, h.2.2.of_below hb⟩
theorem Tabs0.pow10 {w : World} (h : Tabs0 w) : Lib.TabIs Tryz.prog w "internal/strconv.uint64pow10" .u64 Lib.pow10Tab := h.1.pow10
theorem Tabs0.syn {w : World} (h : Tabs0 w) : ∃ ev : Value, w.cell? ⟨1, 0, none⟩ = some ev ∧ (ev = .nilIface ∨ ∃ te pe, ev = .iface te pe) := h.2.1.syn
theorem Tabs0.rng {w : World} (h : Tabs0 w) : ∃ ev : Value, w.cell? ⟨2, 0, none⟩ = some ev ∧ (ev = .nilIface ∨ ∃ te pe, ev = .iface te pe) := h.2.1.rng
theorem Tabs0.maxLen {w : World} (h : Tabs0 w) : ∃ m : Int, w.cell? ⟨0, 0, none⟩ = some (.int .i64 m) := h.2.2.maxLen
end Go.Proofs.YtgoedenbekedbaaGreatDoor.TabsH
