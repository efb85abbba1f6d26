/-
  What strconv.ErrSyntax and strconv.ErrRange hold, as a premise of the walks: an error each.
-/
import Derived.Test.YtgoedenbekedbaaGreatDoorShelfS
namespace Go.Proofs.YtgoedenbekedbaaGreatDoor.TabsS
open Go Go.RowKit Go.Lib
def Err (g : Nat) (w : World) : Prop := ∃ ev : Value, w.cell? ⟨g, 0, none⟩ = some ev ∧ (ev = .nilIface ∨ ∃ te pe, ev = .iface te pe)
def Tabs0 (w : World) : Prop := Err 1 w ∧ Err 2 w
theorem Err.of_below {g : Nat} {w w' : World} (h : Err g w) (hb : Below w.heap.size w w') : Err g w' := by
  obtain ⟨m, hm, q⟩ := h
  refine ⟨m, ?_, q⟩
  have hl : g < w.heap.size := by
    rcases Nat.lt_or_ge g w.heap.size with q | q
    · exact q
    · unfold World.cell? at hm; rw [Array.getElem?_eq_none q] at hm; cases hm
  unfold World.cell? at hm ⊢
  rw [hb.block _ hl]
  exact hm
theorem Tabs0.of_below {w w' : World} (h : Tabs0 w) (hb : Below w.heap.size w w') : Tabs0 w' := ⟨h.1.of_below hb, h.2.of_below hb⟩
theorem Tabs0.syn {w : World} (h : Tabs0 w) : ∃ ev : Value, w.cell? ⟨1, 0, none⟩ = some ev ∧ (ev = .nilIface ∨ ∃ te pe, ev = .iface te pe) := h.1
theorem Tabs0.rng {w : World} (h : Tabs0 w) : ∃ ev : Value, w.cell? ⟨2, 0, none⟩ = some ev ∧ (ev = .nilIface ∨ ∃ te pe, ev = .iface te pe) := h.2
end Go.Proofs.YtgoedenbekedbaaGreatDoor.TabsS
