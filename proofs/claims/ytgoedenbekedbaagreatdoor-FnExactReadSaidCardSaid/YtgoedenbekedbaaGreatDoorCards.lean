/-
  DERIVED. GIVEN WITH THE SEED: THE CARDS: each row of YtgoedenbekedbaaGreatDoorRows.lean that lists a variable, with what it lists TIED to the program's text (the seventh form; the later family's looks); each row that meets fmt, with fmt's text TOLD by the authors' own Lean function (tested against real Go, not proved from fmt's source: count such statements apart). THE CARD IS WHAT COUNTS. Prove the row's statement (the work); the ties are given (YtgoedenbekedbaaGreatDoorTie.lean); close each card by the builder's one call (the guide's Derived/Test/ToyasCard.lean, 'card_holds'). Laid BY PROGRAM, IN A SANDBOX (cutbox-door.mjs). By AI agents, Wed Nov 11 2026. No macro, syntax, notation, axiom, sorry.
-/
import Derived.Test.YtgoedenbekedbaaGreatDoorRows
import GoSem.ClaimSeven
namespace Go.Proofs.YtgoedenbekedbaaGreatDoor
namespace Rows

/-- THE TIED CARD OF 'laws.FnExactReadSaid'. -/
def fnExactReadSaidCard : Claim7 := { stood := { row := fnExactReadSaidRow, standIns := [], harness := (true, "dd9746ce1512363653b918fa15946a86ad8b3cba9dea3a377b90889c07ce8a05"), looks := true }, kinds := [], alts := [], laidByText := true, laidKinds := [.data, .data, .data, .data, .sentinel, .sentinel, .pinned], laidTests := true, laidLooks := .later }
def FnExactReadSaidCardSaid : Prop := Claim7.holds Tryz.pinned (.plain (OpenSpec.ofChange fnExactReadSaidSpec)) fnExactReadSaidCard

/-- THE SECOND FORM's CARD OF 'laws.FnExactReadSaid'. -/
def fnExactReadSaidUptoCard : Claim7 := { stood := { row := fnExactReadSaidUptoRow, standIns := [], harness := (true, "dd9746ce1512363653b918fa15946a86ad8b3cba9dea3a377b90889c07ce8a05"), looks := true }, kinds := [], alts := [], laidByText := true, laidKinds := [.data, .data, .data, .data, .sentinel, .sentinel, .pinned], laidTests := true, laidLooks := .later }
def FnExactReadSaidUptoCardSaid : Prop := Claim7.holds Tryz.pinned (.plain (OpenSpec.upto fnExactReadSaidSpec)) fnExactReadSaidUptoCard
end Rows
end Go.Proofs.YtgoedenbekedbaaGreatDoor
