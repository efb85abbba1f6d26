/-
  The listed variables read as the program's text lays them: the premise of the walks (the tables of unicode/utf8, the table of literals).
-/
import Derived.Test.YtkfbdopfeacnfaaDoorTabsR
import Derived.Test.YtkfbdopfeacnfaaDoorTabsUL
import Derived.Test.YtkfbdopfeacnfaaDoorRows
import Derived.Lib.LaidTab
namespace Go.Proofs.YtkfbdopfeacnfaaDoor.TabsR
open Go Go.RowKit Go.Lib Go.Shelf
def strData {H : Type} (ss : List (List UInt8)) : DataW H := .agg (ss.map fun s => .lit (.string s))
/-- An array of strings that reads as the table holds the table's strings, cell for cell. -/
theorem cells_of_strs {H : Type} {enc : TypeId × Value → H} {P : Program} {w : World} {base : Nat} {sp : Nat → Bool} {held : Bool} {fuel : Nat} {t e : TypeId} {n : Nat} {cs : List Value} {zs : List (List UInt8)} {p : List MemPlace}
    (ht : P.underlying t = some (.array n e)) (he : P.underlying e = some .string) (hce : P.cellsOf e = 1) (hct : P.cellsOf t = n)
    (h : DataW.trod enc P w base sp held fuel t cs = some (strData zs, p)) : cs = zs.map fun z => Value.string ⟨z.toArray⟩ := by
  cases fuel with
  | zero => simp [DataW.trod] at h
  | succ fuel =>
    simp only [DataW.trod, ht, hce, hct, Nat.mul_one] at h
    split at h
    · rename_i hl
      obtain ⟨xs, hm, hx⟩ := Option.map_eq_some_iff.1 h
      have hxs : xs.map (·.1) = zs.map fun z => (DataW.lit (.string z) : DataW H) := by
        have := congrArg Prod.fst hx
        simpa [strData] using this
      have hxl : xs.length = n := by simpa using mapM_length hm
      have hzl : zs.length = n := by
        have := congrArg List.length hxs
        simp at this
        omega
      apply List.ext_getElem?
      intro i
      by_cases hi : i < n
      · obtain ⟨b, hb, hf⟩ := mapM_at hm i i (by simp [hi])
        obtain ⟨z, hc, rfl, _⟩ := DataW.trod_string he hf
        have h1 : cs[i]? = some (.string z) := by
          have := congrArg (·[0]?) hc
          simpa [List.getElem?_take, List.getElem?_drop] using this
        have h2 : (xs.map (·.1))[i]? = some (DataW.lit (.string z.data.toList) : DataW H) := by simp [hb]
        rw [hxs] at h2
        simp only [List.getElem?_map, Option.map_eq_some_iff, DataW.lit.injEq, Lit.string.injEq] at h2
        obtain ⟨z', hz', e2⟩ := h2
        subst e2
        simp [h1, hz']
      · rw [List.getElem?_eq_none (by omega), List.getElem?_eq_none (by simp; omega)]
    · cases h
theorem lit_eq : (Rows.laid_loop_example_g00532_impl_literals : DataW Unit) = strData [[], [110, 117, 108, 108], [102, 97, 108, 115, 101], [116, 114, 117, 101]] := by kernel_rfl
theorem lit_of_reads {W : World} (h : VarReads Tryd.prog W "loop.example/g00532/impl.literals" Rows.laid_loop_example_g00532_impl_literals) : Lit0 W := by
  rw [lit_eq] at h
  obtain ⟨g, t, cs, fuel, p, hg, hty, hvar, hd⟩ := h
  have hg0 : Tryd.prog.globalNamed "loop.example/g00532/impl.literals" = some 0 := by kernel_rfl
  obtain rfl := Option.some.inj (hg0.symm.trans hg)
  obtain ⟨t5, h5⟩ : ∃ t5, (Tryd.prog.globals[0]?).map (·.type) = some t5 ∧ Tryd.prog.underlying t5 = some (.array 4 9) ∧ Tryd.prog.cellsOf t5 = 4 := ⟨105, by kernel_rfl, by kernel_rfl, by kernel_rfl⟩
  obtain rfl := Option.some.inj (h5.1.symm.trans hty)
  have hc := cells_of_strs h5.2.1 (show Tryd.prog.underlying 9 = some .string by kernel_rfl) (by kernel_rfl) h5.2.2 hd
  unfold World.var? at hvar
  rw [hg0] at hvar
  simp only [Option.bind_some] at hvar
  split at hvar
  · rename_i c t fr hb
    injection hvar with hvar
    subst hvar
    refine ⟨t, fr, hb.trans ?_⟩
    have : c = lits := by apply Array.ext'; exact hc
    rw [this]
  · cases hvar
theorem of_laidFnExactReadValue {W : World} (h : laidMet Tryd.prog Rows.fnExactReadValueRow.laid W) : Tabs0 W := ⟨TabsU.of_reads (laidMet.reads h (.tail _ (.tail _ (.head _)))) (laidMet.reads h (.head _)), lit_of_reads (laidMet.reads h (.tail _ (.head _)))⟩
end Go.Proofs.YtkfbdopfeacnfaaDoor.TabsR
