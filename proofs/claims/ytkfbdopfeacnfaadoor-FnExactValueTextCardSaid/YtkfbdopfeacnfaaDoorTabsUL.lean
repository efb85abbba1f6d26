/-
  The listed variables of unicode/utf8 read as its tables: the walks' premise.
-/
import Derived.Test.YtkfbdopfeacnfaaDoorTabsU
import Derived.Test.YtkfbdopfeacnfaaDoorRows
import Derived.PinnedBridge
import Derived.Lib.LaidU8
namespace Go.Proofs.YtkfbdopfeacnfaaDoor.TabsU
open Go Go.RowKit Go.Lib Go.Shelf
theorem extra : U8Extra Tryd.prog Tryd.lays197_ren := ⟨by kernel_rfl, by kernel_rfl, by kernel_rfl, by kernel_rfl, by kernel_rfl, by kernel_rfl, by kernel_rfl⟩
theorem accept_eq : (Rows.laid_unicode_utf8_acceptRanges : DataW Unit) = acceptData := by kernel_rfl
theorem of_reads {W : World} (h3 : VarReads Tryd.prog W "unicode/utf8.first" Rows.laid_unicode_utf8_first) (h4 : VarReads Tryd.prog W "unicode/utf8.acceptRanges" Rows.laid_unicode_utf8_acceptRanges) : Tabs0 W :=
  utf8Tabs_of_reads { Tryd.lays197 with } extra (Pinned.utf8First_eq ▸ h3) (accept_eq ▸ h4)
theorem of_laidFnExactGoodValue {W : World} (h : laidMet Tryd.prog Rows.fnExactGoodValueRow.laid W) : Tabs0 W := of_reads (laidMet.reads h (.tail _ (.head _))) (laidMet.reads h (.head _))
theorem of_laidFnExactDepthOf {W : World} (h : laidMet Tryd.prog Rows.fnExactDepthOfRow.laid W) : Tabs0 W := of_reads (laidMet.reads h (.tail _ (.head _))) (laidMet.reads h (.head _))
theorem of_laidFnExactFieldOf {W : World} (h : laidMet Tryd.prog Rows.fnExactFieldOfRow.laid W) : Tabs0 W := of_reads (laidMet.reads h (.tail _ (.head _))) (laidMet.reads h (.head _))
theorem of_laidFnExactWithField {W : World} (h : laidMet Tryd.prog Rows.fnExactWithFieldRow.laid W) : Tabs0 W := of_reads (laidMet.reads h (.tail _ (.head _))) (laidMet.reads h (.head _))
theorem of_laidFnFields {W : World} (h : laidMet Tryd.prog Rows.fnFieldsRow.laid W) : Tabs0 W := of_reads (laidMet.reads h (.tail _ (.head _))) (laidMet.reads h (.head _))
end Go.Proofs.YtkfbdopfeacnfaaDoor.TabsU
