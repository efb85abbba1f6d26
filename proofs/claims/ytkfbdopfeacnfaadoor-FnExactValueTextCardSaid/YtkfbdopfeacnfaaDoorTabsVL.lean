/-
  The listed variables read as the program's text lays them: the premise of ValueText's walks.
-/
import Derived.Test.YtkfbdopfeacnfaaDoorTabsV
import Derived.Test.YtkfbdopfeacnfaaDoorTabsRL
import Derived.Test.YtkfbdopfeacnfaaDoorTabsIL
namespace Go.Proofs.YtkfbdopfeacnfaaDoor.TabsV
open Go Go.RowKit Go.Lib Go.Shelf
theorem of_laidFnExactValueText {W : World} (h : laidMet Tryd.prog Rows.fnExactValueTextRow.laid W) : Tabs0 W :=
  ⟨⟨TabsU.of_reads (laidMet.reads h (.tail _ (.tail _ (.tail _ (.tail _ (.tail _ (.head _))))))) (laidMet.reads h (.tail _ (.tail _ (.tail _ (.head _))))), TabsR.lit_of_reads (laidMet.reads h (.tail _ (.tail _ (.tail _ (.tail _ (.head _))))))⟩, TabsI.of_reads (laidMet.reads h (.tail _ (.tail _ (.head _))))⟩
end Go.Proofs.YtkfbdopfeacnfaaDoor.TabsV
