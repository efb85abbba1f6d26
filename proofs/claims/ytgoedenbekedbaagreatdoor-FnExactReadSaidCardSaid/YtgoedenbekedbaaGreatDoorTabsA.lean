/-
  What internal/bytealg.MaxLen holds, as a premise of the walks: some int.
-/
import Derived.Test.YtgoedenbekedbaaGreatDoorShelfC
namespace Go.Proofs.YtgoedenbekedbaaGreatDoor.TabsA
open Go Go.RowKit Go.Lib
def Tabs0 (w : World) : Prop := ∃ m : Int, w.cell? ⟨0, 0, none⟩ = some (.int .i64 m)
theorem Tabs0.of_below {w w' : World} (h : Tabs0 w) (hb : Below w.heap.size w w') : Tabs0 w' := by
  obtain ⟨m, hm⟩ := h
  refine ⟨m, ?_⟩
  have hl : 0 < w.heap.size := by
    rcases Nat.lt_or_ge 0 w.heap.size with q | q
    · exact q
    · unfold World.cell? at hm; rw [Array.getElem?_eq_none q] at hm; cases hm
  unfold World.cell? at hm ⊢
  rw [hb.block _ hl]
  exact hm
theorem Tabs0.maxLen {w : World} (h : Tabs0 w) : ∃ m : Int, w.cell? ⟨0, 0, none⟩ = some (.int .i64 m) := h
end Go.Proofs.YtgoedenbekedbaaGreatDoor.TabsA
