/-
  DERIVED. GIVEN WITH THE SEED: THE CARDS: each row of YtgoedenbekedbaaDoorRows.lean that lists a variable, with what it lists TIED to the program's text (the seventh form; the later family's looks); each row that meets fmt, with fmt's text TOLD by the authors' own Lean function (tested against real Go, not proved from fmt's source: count such statements apart). THE CARD IS WHAT COUNTS. Prove the row's statement (the work); the ties are given (YtgoedenbekedbaaDoorTie.lean); close each card by the builder's one call (the guide's Derived/Test/ToyasCard.lean, 'card_holds'). Laid BY PROGRAM, IN A SANDBOX (cutbox-door.mjs). By AI agents, Wed Nov 11 2026. No macro, syntax, notation, axiom, sorry.
-/
import Derived.Test.YtgoedenbekedbaaDoorRows
import GoSem.ClaimSeven
namespace Go.Proofs.YtgoedenbekedbaaDoor
namespace Rows

/-- THE TIED CARD OF 'laws.FnExactHeadText'. -/
def fnExactHeadTextCard : Claim7 := { stood := { row := fnExactHeadTextRow, standIns := [], harness := (true, "75c9a71c03f7269ac7102d6780086fdfe48f3f72d3a548d57a53e0a4c7b54868"), looks := true }, kinds := [], alts := [], laidByText := true, laidKinds := [.data, .data, .data], laidTests := true, laidLooks := .later }
def FnExactHeadTextCardSaid : Prop := Claim7.holds Tryd.pinned (.plain (OpenSpec.ofChange fnExactHeadTextSpec)) fnExactHeadTextCard

/-- THE TIED CARD OF 'laws.FnExactSaidText'. -/
def fnExactSaidTextCard : Claim7 := { stood := { row := fnExactSaidTextRow, standIns := [], harness := (true, "75c9a71c03f7269ac7102d6780086fdfe48f3f72d3a548d57a53e0a4c7b54868"), looks := true }, kinds := [], alts := [], laidByText := true, laidKinds := [.data, .data, .data], laidTests := true, laidLooks := .later }
def FnExactSaidTextCardSaid : Prop := Claim7.holds Tryd.pinned (.plain (OpenSpec.ofChange fnExactSaidTextSpec)) fnExactSaidTextCard

/-- THE TIED CARD OF 'laws.FnExactReadHead'. -/
def fnExactReadHeadCard : Claim7 := { stood := { row := fnExactReadHeadRow, standIns := [], harness := (true, "75c9a71c03f7269ac7102d6780086fdfe48f3f72d3a548d57a53e0a4c7b54868"), looks := true }, kinds := [], alts := [], laidByText := true, laidKinds := [.data, .data, .data, .data, .sentinel, .sentinel, .pinned], laidTests := true, laidLooks := .later }
def FnExactReadHeadCardSaid : Prop := Claim7.holds Tryd.pinned (.plain (OpenSpec.ofChange fnExactReadHeadSpec)) fnExactReadHeadCard

/-- THE TIED CARD OF 'laws.FnRunes'. -/
def fnRunesCard : Claim7 := { stood := { row := fnRunesRow, standIns := [], harness := (true, "75c9a71c03f7269ac7102d6780086fdfe48f3f72d3a548d57a53e0a4c7b54868"), looks := true }, kinds := [], alts := [], laidByText := true, laidKinds := [.data, .pinned], laidTests := true, laidLooks := .later }
def FnRunesCardSaid : Prop := Claim7.holds Tryd.pinned (.plain (OpenSpec.ofChange fnRunesSpec)) fnRunesCard

/-- THE TIED CARD OF 'laws.FnPairs'. -/
def fnPairsCard : Claim7 := { stood := { row := fnPairsRow, standIns := [], harness := (true, "75c9a71c03f7269ac7102d6780086fdfe48f3f72d3a548d57a53e0a4c7b54868"), looks := true }, kinds := [], alts := [], laidByText := true, laidKinds := [.data, .pinned], laidTests := true, laidLooks := .later }
def FnPairsCardSaid : Prop := Claim7.holds Tryd.pinned (.plain (OpenSpec.ofChange fnPairsSpec)) fnPairsCard

/-- THE TIED CARD OF 'laws.FnSigns'. -/
def fnSignsCard : Claim7 := { stood := { row := fnSignsRow, standIns := [], harness := (true, "75c9a71c03f7269ac7102d6780086fdfe48f3f72d3a548d57a53e0a4c7b54868"), looks := true }, kinds := [], alts := [], laidByText := true, laidKinds := [.data, .data, .data, .data, .sentinel, .sentinel, .pinned], laidTests := true, laidLooks := .later }
def FnSignsCardSaid : Prop := Claim7.holds Tryd.pinned (.plain (OpenSpec.ofChange fnSignsSpec)) fnSignsCard

/-- THE TIED CARD OF 'laws.FnArmor'. -/
def fnArmorCard : Claim7 := { stood := { row := fnArmorRow, standIns := [], harness := (true, "75c9a71c03f7269ac7102d6780086fdfe48f3f72d3a548d57a53e0a4c7b54868"), looks := true }, kinds := [], alts := [], laidByText := true, laidKinds := [.data, .pinned], laidTests := true, laidLooks := .later }
def FnArmorCardSaid : Prop := Claim7.holds Tryd.pinned (.plain (OpenSpec.ofChange fnArmorSpec)) fnArmorCard

/-- THE SECOND FORM's CARD OF 'laws.FnExactHeadText'. -/
def fnExactHeadTextUptoCard : Claim7 := { stood := { row := fnExactHeadTextUptoRow, standIns := [], harness := (true, "75c9a71c03f7269ac7102d6780086fdfe48f3f72d3a548d57a53e0a4c7b54868"), looks := true }, kinds := [], alts := [], laidByText := true, laidKinds := [.data, .data, .data], laidTests := true, laidLooks := .later }
def FnExactHeadTextUptoCardSaid : Prop := Claim7.holds Tryd.pinned (.plain (OpenSpec.upto fnExactHeadTextSpec)) fnExactHeadTextUptoCard

/-- THE SECOND FORM's CARD OF 'laws.FnExactSaidText'. -/
def fnExactSaidTextUptoCard : Claim7 := { stood := { row := fnExactSaidTextUptoRow, standIns := [], harness := (true, "75c9a71c03f7269ac7102d6780086fdfe48f3f72d3a548d57a53e0a4c7b54868"), looks := true }, kinds := [], alts := [], laidByText := true, laidKinds := [.data, .data, .data], laidTests := true, laidLooks := .later }
def FnExactSaidTextUptoCardSaid : Prop := Claim7.holds Tryd.pinned (.plain (OpenSpec.upto fnExactSaidTextSpec)) fnExactSaidTextUptoCard

/-- THE SECOND FORM's CARD OF 'laws.FnExactReadHead'. -/
def fnExactReadHeadUptoCard : Claim7 := { stood := { row := fnExactReadHeadUptoRow, standIns := [], harness := (true, "75c9a71c03f7269ac7102d6780086fdfe48f3f72d3a548d57a53e0a4c7b54868"), looks := true }, kinds := [], alts := [], laidByText := true, laidKinds := [.data, .data, .data, .data, .sentinel, .sentinel, .pinned], laidTests := true, laidLooks := .later }
def FnExactReadHeadUptoCardSaid : Prop := Claim7.holds Tryd.pinned (.plain (OpenSpec.upto fnExactReadHeadSpec)) fnExactReadHeadUptoCard

/-- THE SECOND FORM's CARD OF 'laws.FnRunes'. -/
def fnRunesUptoCard : Claim7 := { stood := { row := fnRunesUptoRow, standIns := [], harness := (true, "75c9a71c03f7269ac7102d6780086fdfe48f3f72d3a548d57a53e0a4c7b54868"), looks := true }, kinds := [], alts := [], laidByText := true, laidKinds := [.data, .pinned], laidTests := true, laidLooks := .later }
def FnRunesUptoCardSaid : Prop := Claim7.holds Tryd.pinned (.plain (OpenSpec.upto fnRunesSpec)) fnRunesUptoCard

/-- THE SECOND FORM's CARD OF 'laws.FnPairs'. -/
def fnPairsUptoCard : Claim7 := { stood := { row := fnPairsUptoRow, standIns := [], harness := (true, "75c9a71c03f7269ac7102d6780086fdfe48f3f72d3a548d57a53e0a4c7b54868"), looks := true }, kinds := [], alts := [], laidByText := true, laidKinds := [.data, .pinned], laidTests := true, laidLooks := .later }
def FnPairsUptoCardSaid : Prop := Claim7.holds Tryd.pinned (.plain (OpenSpec.upto fnPairsSpec)) fnPairsUptoCard

/-- THE SECOND FORM's CARD OF 'laws.FnSigns'. -/
def fnSignsUptoCard : Claim7 := { stood := { row := fnSignsUptoRow, standIns := [], harness := (true, "75c9a71c03f7269ac7102d6780086fdfe48f3f72d3a548d57a53e0a4c7b54868"), looks := true }, kinds := [], alts := [], laidByText := true, laidKinds := [.data, .data, .data, .data, .sentinel, .sentinel, .pinned], laidTests := true, laidLooks := .later }
def FnSignsUptoCardSaid : Prop := Claim7.holds Tryd.pinned (.plain (OpenSpec.upto fnSignsSpec)) fnSignsUptoCard

/-- THE SECOND FORM's CARD OF 'laws.FnArmor'. -/
def fnArmorUptoCard : Claim7 := { stood := { row := fnArmorUptoRow, standIns := [], harness := (true, "75c9a71c03f7269ac7102d6780086fdfe48f3f72d3a548d57a53e0a4c7b54868"), looks := true }, kinds := [], alts := [], laidByText := true, laidKinds := [.data, .pinned], laidTests := true, laidLooks := .later }
def FnArmorUptoCardSaid : Prop := Claim7.holds Tryd.pinned (.plain (OpenSpec.upto fnArmorSpec)) fnArmorUptoCard
end Rows
end Go.Proofs.YtgoedenbekedbaaDoor
