/-
  The listed variables read as the program's text lays them, and the world is of the program's shape: the walks' premise.
-/
import Derived.Test.YtgoedenbekedbaaGreatDoorTabsH
import Derived.Test.YtgoedenbekedbaaGreatDoorTabsIL
import Derived.Test.YtgoedenbekedbaaGreatDoorTabsSL
import Derived.Test.YtgoedenbekedbaaGreatDoorTabsAL
namespace Go.Proofs.YtgoedenbekedbaaGreatDoor.TabsH
open Go Go.RowKit Go.Lib Go.Shelf
theorem of_laidFnExactReadSaid {W : World} (h : laidMet Tryz.prog Rows.fnExactReadSaidRow.laid W) (hs : W.ShapedOpen Tryz.prog) : Tabs0 W :=
  ⟨TabsI.of_reads (laidMet.reads h (.tail _ (.tail _ (.head _)))), TabsS.of_reads (laidMet.reads h (.tail _ (.tail _ (.tail _ (.tail _ (.tail _ (.head _))))))) (laidMet.reads h (.tail _ (.tail _ (.tail _ (.tail _ (.head _)))))), TabsA.of_shaped hs⟩
end Go.Proofs.YtgoedenbekedbaaGreatDoor.TabsH
