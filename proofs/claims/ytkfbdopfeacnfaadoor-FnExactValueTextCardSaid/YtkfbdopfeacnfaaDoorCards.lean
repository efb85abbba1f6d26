/-
  DERIVED. GIVEN WITH THE SEED: THE CARDS: each row of YtkfbdopfeacnfaaDoorRows.lean that lists a variable, with what it lists TIED to the program's text (the seventh form; the later family's looks); each row that meets fmt, with fmt's text TOLD by the authors' own Lean function (tested against real Go, not proved from fmt's source: count such statements apart). THE CARD IS WHAT COUNTS. Prove the row's statement (the work); the ties are given (YtkfbdopfeacnfaaDoorTie.lean); close each card by the builder's one call (the guide's Derived/Test/ToyasCard.lean, 'card_holds'). Laid BY PROGRAM, IN A SANDBOX (cutbox-door.mjs). By AI agents, Wed Nov 11 2026. No macro, syntax, notation, axiom, sorry.
-/
import Derived.Test.YtkfbdopfeacnfaaDoorRows
import GoSem.ClaimSeven
namespace Go.Proofs.YtkfbdopfeacnfaaDoor
namespace Rows

/-- THE TIED CARD OF 'laws.FnExactReadValue'. -/
def fnExactReadValueCard : Claim7 := { stood := { row := fnExactReadValueRow, standIns := [], harness := (true, "bdaa254a3d30df218e3b94931148c4c4fb76dd3985134cda38bcb15898daeb56"), looks := false }, kinds := [], alts := [], laidByText := true, laidKinds := [.data, .data, .pinned], laidTests := true, laidLooks := .later }
def FnExactReadValueCardSaid : Prop := Claim7.holds Tryd.pinned (.plain (OpenSpec.ofChange fnExactReadValueSpec)) fnExactReadValueCard

/-- THE TIED CARD OF 'laws.FnExactGoodValue'. -/
def fnExactGoodValueCard : Claim7 := { stood := { row := fnExactGoodValueRow, standIns := [], harness := (true, "bdaa254a3d30df218e3b94931148c4c4fb76dd3985134cda38bcb15898daeb56"), looks := false }, kinds := [], alts := [], laidByText := true, laidKinds := [.data, .pinned], laidTests := true, laidLooks := .later }
def FnExactGoodValueCardSaid : Prop := Claim7.holds Tryd.pinned (.plain (OpenSpec.ofChange fnExactGoodValueSpec)) fnExactGoodValueCard

/-- THE TIED CARD OF 'laws.FnExactDepthOf'. -/
def fnExactDepthOfCard : Claim7 := { stood := { row := fnExactDepthOfRow, standIns := [], harness := (true, "bdaa254a3d30df218e3b94931148c4c4fb76dd3985134cda38bcb15898daeb56"), looks := false }, kinds := [], alts := [], laidByText := true, laidKinds := [.data, .pinned], laidTests := true, laidLooks := .later }
def FnExactDepthOfCardSaid : Prop := Claim7.holds Tryd.pinned (.plain (OpenSpec.ofChange fnExactDepthOfSpec)) fnExactDepthOfCard

/-- THE TIED CARD OF 'laws.FnExactFieldOf'. -/
def fnExactFieldOfCard : Claim7 := { stood := { row := fnExactFieldOfRow, standIns := [], harness := (true, "bdaa254a3d30df218e3b94931148c4c4fb76dd3985134cda38bcb15898daeb56"), looks := false }, kinds := [], alts := [], laidByText := true, laidKinds := [.data, .pinned], laidTests := true, laidLooks := .later }
def FnExactFieldOfCardSaid : Prop := Claim7.holds Tryd.pinned (.plain (OpenSpec.ofChange fnExactFieldOfSpec)) fnExactFieldOfCard

/-- THE TIED CARD OF 'laws.FnExactValueText'. -/
def fnExactValueTextCard : Claim7 := { stood := { row := fnExactValueTextRow, standIns := [], harness := (true, "bdaa254a3d30df218e3b94931148c4c4fb76dd3985134cda38bcb15898daeb56"), looks := false }, kinds := [], alts := [], laidByText := true, laidKinds := [.data, .data, .data, .data, .data, .pinned], laidTests := true, laidLooks := .later }
def FnExactValueTextCardSaid : Prop := Claim7.holds Tryd.pinned (.plain (OpenSpec.ofChange fnExactValueTextSpec)) fnExactValueTextCard

/-- THE TIED CARD OF 'laws.FnExactWithField'. -/
def fnExactWithFieldCard : Claim7 := { stood := { row := fnExactWithFieldRow, standIns := [], harness := (true, "bdaa254a3d30df218e3b94931148c4c4fb76dd3985134cda38bcb15898daeb56"), looks := false }, kinds := [], alts := [], laidByText := true, laidKinds := [.data, .pinned], laidTests := true, laidLooks := .later }
def FnExactWithFieldCardSaid : Prop := Claim7.holds Tryd.pinned (.plain (OpenSpec.ofChange fnExactWithFieldSpec)) fnExactWithFieldCard

/-- THE TIED CARD OF 'laws.FnFields'. -/
def fnFieldsCard : Claim7 := { stood := { row := fnFieldsRow, standIns := [], harness := (true, "bdaa254a3d30df218e3b94931148c4c4fb76dd3985134cda38bcb15898daeb56"), looks := false }, kinds := [], alts := [], laidByText := true, laidKinds := [.data, .pinned], laidTests := true, laidLooks := .later }
def FnFieldsCardSaid : Prop := Claim7.holds Tryd.pinned (.plain (OpenSpec.ofChange fnFieldsSpec)) fnFieldsCard

/-- THE SECOND FORM's CARD OF 'laws.FnExactReadValue'. -/
def fnExactReadValueUptoCard : Claim7 := { stood := { row := fnExactReadValueUptoRow, standIns := [], harness := (true, "bdaa254a3d30df218e3b94931148c4c4fb76dd3985134cda38bcb15898daeb56"), looks := false }, kinds := [], alts := [], laidByText := true, laidKinds := [.data, .data, .pinned], laidTests := true, laidLooks := .later }
def FnExactReadValueUptoCardSaid : Prop := Claim7.holds Tryd.pinned (.plain (OpenSpec.upto fnExactReadValueSpec)) fnExactReadValueUptoCard

/-- THE SECOND FORM's CARD OF 'laws.FnExactGoodValue'. -/
def fnExactGoodValueUptoCard : Claim7 := { stood := { row := fnExactGoodValueUptoRow, standIns := [], harness := (true, "bdaa254a3d30df218e3b94931148c4c4fb76dd3985134cda38bcb15898daeb56"), looks := false }, kinds := [], alts := [], laidByText := true, laidKinds := [.data, .pinned], laidTests := true, laidLooks := .later }
def FnExactGoodValueUptoCardSaid : Prop := Claim7.holds Tryd.pinned (.plain (OpenSpec.upto fnExactGoodValueSpec)) fnExactGoodValueUptoCard

/-- THE SECOND FORM's CARD OF 'laws.FnExactDepthOf'. -/
def fnExactDepthOfUptoCard : Claim7 := { stood := { row := fnExactDepthOfUptoRow, standIns := [], harness := (true, "bdaa254a3d30df218e3b94931148c4c4fb76dd3985134cda38bcb15898daeb56"), looks := false }, kinds := [], alts := [], laidByText := true, laidKinds := [.data, .pinned], laidTests := true, laidLooks := .later }
def FnExactDepthOfUptoCardSaid : Prop := Claim7.holds Tryd.pinned (.plain (OpenSpec.upto fnExactDepthOfSpec)) fnExactDepthOfUptoCard

/-- THE SECOND FORM's CARD OF 'laws.FnExactFieldOf'. -/
def fnExactFieldOfUptoCard : Claim7 := { stood := { row := fnExactFieldOfUptoRow, standIns := [], harness := (true, "bdaa254a3d30df218e3b94931148c4c4fb76dd3985134cda38bcb15898daeb56"), looks := false }, kinds := [], alts := [], laidByText := true, laidKinds := [.data, .pinned], laidTests := true, laidLooks := .later }
def FnExactFieldOfUptoCardSaid : Prop := Claim7.holds Tryd.pinned (.plain (OpenSpec.upto fnExactFieldOfSpec)) fnExactFieldOfUptoCard

/-- THE SECOND FORM's CARD OF 'laws.FnExactValueText'. -/
def fnExactValueTextUptoCard : Claim7 := { stood := { row := fnExactValueTextUptoRow, standIns := [], harness := (true, "bdaa254a3d30df218e3b94931148c4c4fb76dd3985134cda38bcb15898daeb56"), looks := false }, kinds := [], alts := [], laidByText := true, laidKinds := [.data, .data, .data, .data, .data, .pinned], laidTests := true, laidLooks := .later }
def FnExactValueTextUptoCardSaid : Prop := Claim7.holds Tryd.pinned (.plain (OpenSpec.upto fnExactValueTextSpec)) fnExactValueTextUptoCard

/-- THE SECOND FORM's CARD OF 'laws.FnExactWithField'. -/
def fnExactWithFieldUptoCard : Claim7 := { stood := { row := fnExactWithFieldUptoRow, standIns := [], harness := (true, "bdaa254a3d30df218e3b94931148c4c4fb76dd3985134cda38bcb15898daeb56"), looks := false }, kinds := [], alts := [], laidByText := true, laidKinds := [.data, .pinned], laidTests := true, laidLooks := .later }
def FnExactWithFieldUptoCardSaid : Prop := Claim7.holds Tryd.pinned (.plain (OpenSpec.upto fnExactWithFieldSpec)) fnExactWithFieldUptoCard

/-- THE SECOND FORM's CARD OF 'laws.FnFields'. -/
def fnFieldsUptoCard : Claim7 := { stood := { row := fnFieldsUptoRow, standIns := [], harness := (true, "bdaa254a3d30df218e3b94931148c4c4fb76dd3985134cda38bcb15898daeb56"), looks := false }, kinds := [], alts := [], laidByText := true, laidKinds := [.data, .pinned], laidTests := true, laidLooks := .later }
def FnFieldsUptoCardSaid : Prop := Claim7.holds Tryd.pinned (.plain (OpenSpec.upto fnFieldsSpec)) fnFieldsUptoCard
end Rows
end Go.Proofs.YtkfbdopfeacnfaaDoor
