/-
  The listed variable of internal/strconv reads as its table: the walks' premise.
-/
import Derived.Test.YtkfbdopfeacnfaaDoorTabsI
import Derived.Test.YtkfbdopfeacnfaaDoorRows
import Derived.PinnedBridge
import Derived.Lib.LaidU8
namespace Go.Proofs.YtkfbdopfeacnfaaDoor.TabsI
open Go Go.RowKit Go.Lib Go.Shelf
theorem pow_eq : (Rows.laid_internal_strconv_uint64pow10 : DataW Unit) = tabData .u64 pow10Tab := by kernel_rfl
theorem of_reads {W : World} (h : VarReads Tryd.prog W "internal/strconv.uint64pow10" Rows.laid_internal_strconv_uint64pow10) : Tabs0 W := by
  rw [pow_eq] at h
  obtain ⟨g, t, cs, fuel, p, hg, hty, hvar, hd⟩ := h
  have hg5 : Tryd.prog.globalNamed "internal/strconv.uint64pow10" = some 3 := by kernel_rfl
  obtain rfl := Option.some.inj (hg5.symm.trans hg)
  obtain ⟨t5, h5⟩ : ∃ t5, (Tryd.prog.globals[3]?).map (·.type) = some t5 ∧ Tryd.prog.underlying t5 = some (.array 20 84) ∧ Tryd.prog.cellsOf t5 = 20 := ⟨180, by kernel_rfl, by kernel_rfl, by kernel_rfl⟩
  obtain rfl := Option.some.inj (h5.1.symm.trans hty)
  unfold Tabs0 TabIs
  rw [hvar, ← cells_of_tab h5.2.1 (show Tryd.prog.underlying 84 = some (.int .u64) by kernel_rfl) (by kernel_rfl) h5.2.2 hd]
end Go.Proofs.YtkfbdopfeacnfaaDoor.TabsI
