/-
  What the tables of unicode/utf8 and the program's table of literals hold, as a premise of the walks.
-/
import Derived.Test.YtkfbdopfeacnfaaDoorTabsU
namespace Go.Proofs.YtkfbdopfeacnfaaDoor.TabsR
open Go Go.RowKit Go.Lib
def lits : Array Value := #[.string ⟨#[]⟩, .string ⟨#[110, 117, 108, 108]⟩, .string ⟨#[102, 97, 108, 115, 101]⟩, .string ⟨#[116, 114, 117, 101]⟩]
def Lit0 (w : World) : Prop := ∃ t fr, w.heap[0]? = some (.cells lits t fr)
theorem Lit0.of_below {w w' : World} (h : Lit0 w) (hb : Below w.heap.size w w') : Lit0 w' := by
  obtain ⟨t, fr, h⟩ := h
  have hl : 0 < w.heap.size := by
    rcases Nat.lt_or_ge 0 w.heap.size with q | q
    · exact q
    · rw [Array.getElem?_eq_none q] at h; cases h
  exact ⟨t, fr, (hb.block _ hl).trans h⟩
theorem Lit0.at {w : World} (h : Lit0 w) {j : Nat} {v : Value} (hv : lits[j]? = some v) : w.cell? ⟨0, j, none⟩ = some v := by
  obtain ⟨t, fr, h⟩ := h
  unfold World.cell?
  simp only [h]
  exact hv
def Tabs0 (w : World) : Prop := TabsU.Tabs0 w ∧ Lit0 w
theorem Tabs0.of_below {w w' : World} (h : Tabs0 w) (hb : Below w.heap.size w w') : Tabs0 w' := ⟨h.1.of_below hb, h.2.of_below hb⟩
theorem Tabs0.utf8 {w : World} (h : Tabs0 w) : Lib.Utf8Tabs 1 2 w := h.1.utf8
theorem Tabs0.lit {w : World} (h : Tabs0 w) : Lit0 w := h.2
end Go.Proofs.YtkfbdopfeacnfaaDoor.TabsR
