/-
  The listed variables read as the program's text lays them, and the world is of the program's shape: the walks' premise.
-/
import Derived.Test.YtgoedenbekedbaaDoorTabsH
import Derived.Test.YtgoedenbekedbaaDoorTabsIL
import Derived.Test.YtgoedenbekedbaaDoorTabsSL
import Derived.Test.YtgoedenbekedbaaDoorTabsAL
namespace Go.Proofs.YtgoedenbekedbaaDoor.TabsH
open Go Go.RowKit Go.Lib Go.Shelf
theorem of_laidFnExactReadHead {W : World} (h : laidMet Tryd.prog Rows.fnExactReadHeadRow.laid W) (hs : W.ShapedOpen Tryd.prog) : Tabs0 W :=
  ⟨TabsI.of_reads (laidMet.reads h (.tail _ (.tail _ (.head _)))), TabsS.of_reads (laidMet.reads h (.tail _ (.tail _ (.tail _ (.tail _ (.tail _ (.head _))))))) (laidMet.reads h (.tail _ (.tail _ (.tail _ (.tail _ (.head _)))))), TabsA.of_shaped hs⟩
end Go.Proofs.YtgoedenbekedbaaDoor.TabsH
