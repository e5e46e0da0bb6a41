/-
  DERIVED. GIVEN WITH THE SEED: THE CARDS: each row of YthjdnhnbgjgbkaaGreatDoorRows.lean that lists a variable, with what it lists TIED to the program's text (the seventh form; the later family's looks); each row that meets fmt, with fmt's text TOLD by the authors' own Lean function (tested against real Go, not proved from fmt's source: count such statements apart). THE CARD IS WHAT COUNTS. Prove the row's statement (the work); the ties are given (YthjdnhnbgjgbkaaGreatDoorTie.lean); close each card by the builder's one call (the guide's Derived/Test/ToyasCard.lean, 'card_holds'). Laid BY PROGRAM, IN A SANDBOX (cutbox-door.mjs). By AI agents, Wed Nov 11 2026. No macro, syntax, notation, axiom, sorry.
-/
import Derived.Test.YthjdnhnbgjgbkaaGreatDoorRows
import GoSem.ClaimSeven
namespace Go.Proofs.YthjdnhnbgjgbkaaGreatDoor
namespace Rows

/-- THE TIED CARD OF 'scriptorlaw11.ParsePieces'. -/
def parsePiecesCard : Claim7 := { stood := { row := parsePiecesRow, standIns := [], harness := (true, "2d26f66f35880c281bf30f31276801d1be0e7ec328ac9bcf9396e45b1e62918b"), looks := true }, kinds := [], alts := [], laidByText := true, laidKinds := [.data, .data, .widerDeep, .widerDeep, .data, .data, .data, .data, .data, .data, .sentinel, .sentinel, .pinned, .pinned, .pinned], laidTests := true, laidLooks := .later }
def ParsePiecesCardSaid : Prop := Claim7.holds Tryz.pinned (.plain (OpenSpec.ofChange parsePiecesSpec)) parsePiecesCard

/-- THE TIED CARD OF 'scriptorlaw11.ParseDeep'. -/
def parseDeepCard : Claim7 := { stood := { row := parseDeepRow, standIns := [], harness := (true, "2d26f66f35880c281bf30f31276801d1be0e7ec328ac9bcf9396e45b1e62918b"), looks := true }, kinds := [], alts := [], laidByText := true, laidKinds := [.data, .data, .widerDeep, .widerDeep, .data, .data, .data, .data, .data, .data, .sentinel, .sentinel, .pinned, .pinned, .pinned], laidTests := true, laidLooks := .later }
def ParseDeepCardSaid : Prop := Claim7.holds Tryz.pinned (.plain (OpenSpec.ofChange parseDeepSpec)) parseDeepCard

/-- THE TIED CARD OF 'scriptorlaw11.ParseNames'. -/
def parseNamesCard : Claim7 := { stood := { row := parseNamesRow, standIns := [], harness := (true, "2d26f66f35880c281bf30f31276801d1be0e7ec328ac9bcf9396e45b1e62918b"), looks := true }, kinds := [], alts := [], laidByText := true, laidKinds := [.data, .data, .widerDeep, .widerDeep, .data, .data, .data, .data, .data, .data, .sentinel, .sentinel, .pinned, .pinned, .pinned], laidTests := true, laidLooks := .later }
def ParseNamesCardSaid : Prop := Claim7.holds Tryz.pinned (.plain (OpenSpec.ofChange parseNamesSpec)) parseNamesCard

/-- THE TIED CARD OF 'scriptorlaw11.ParseCounts'. -/
def parseCountsCard : Claim7 := { stood := { row := parseCountsRow, standIns := [], harness := (true, "2d26f66f35880c281bf30f31276801d1be0e7ec328ac9bcf9396e45b1e62918b"), looks := true }, kinds := [], alts := [], laidByText := true, laidKinds := [.data, .data, .widerDeep, .widerDeep, .data, .data, .data, .data, .data, .data, .sentinel, .sentinel, .pinned, .pinned, .pinned], laidTests := true, laidLooks := .later }
def ParseCountsCardSaid : Prop := Claim7.holds Tryz.pinned (.plain (OpenSpec.ofChange parseCountsSpec)) parseCountsCard

/-- THE TIED CARD OF 'scriptorlaw11.ParseTops'. -/
def parseTopsCard : Claim7 := { stood := { row := parseTopsRow, standIns := [], harness := (true, "2d26f66f35880c281bf30f31276801d1be0e7ec328ac9bcf9396e45b1e62918b"), looks := true }, kinds := [], alts := [], laidByText := true, laidKinds := [.data, .data, .widerDeep, .widerDeep, .data, .data, .data, .data, .data, .data, .sentinel, .sentinel, .pinned, .pinned, .pinned], laidTests := true, laidLooks := .later }
def ParseTopsCardSaid : Prop := Claim7.holds Tryz.pinned (.plain (OpenSpec.ofChange parseTopsSpec)) parseTopsCard

/-- THE SECOND FORM's CARD OF 'scriptorlaw11.ParsePieces'. -/
def parsePiecesUptoCard : Claim7 := { stood := { row := parsePiecesUptoRow, standIns := [], harness := (true, "2d26f66f35880c281bf30f31276801d1be0e7ec328ac9bcf9396e45b1e62918b"), looks := true }, kinds := [], alts := [], laidByText := true, laidKinds := [.data, .data, .widerDeep, .widerDeep, .data, .data, .data, .data, .data, .data, .sentinel, .sentinel, .pinned, .pinned, .pinned], laidTests := true, laidLooks := .later }
def ParsePiecesUptoCardSaid : Prop := Claim7.holds Tryz.pinned (.plain (OpenSpec.upto parsePiecesSpec)) parsePiecesUptoCard

/-- THE SECOND FORM's CARD OF 'scriptorlaw11.ParseDeep'. -/
def parseDeepUptoCard : Claim7 := { stood := { row := parseDeepUptoRow, standIns := [], harness := (true, "2d26f66f35880c281bf30f31276801d1be0e7ec328ac9bcf9396e45b1e62918b"), looks := true }, kinds := [], alts := [], laidByText := true, laidKinds := [.data, .data, .widerDeep, .widerDeep, .data, .data, .data, .data, .data, .data, .sentinel, .sentinel, .pinned, .pinned, .pinned], laidTests := true, laidLooks := .later }
def ParseDeepUptoCardSaid : Prop := Claim7.holds Tryz.pinned (.plain (OpenSpec.upto parseDeepSpec)) parseDeepUptoCard

/-- THE SECOND FORM's CARD OF 'scriptorlaw11.ParseNames'. -/
def parseNamesUptoCard : Claim7 := { stood := { row := parseNamesUptoRow, standIns := [], harness := (true, "2d26f66f35880c281bf30f31276801d1be0e7ec328ac9bcf9396e45b1e62918b"), looks := true }, kinds := [], alts := [], laidByText := true, laidKinds := [.data, .data, .widerDeep, .widerDeep, .data, .data, .data, .data, .data, .data, .sentinel, .sentinel, .pinned, .pinned, .pinned], laidTests := true, laidLooks := .later }
def ParseNamesUptoCardSaid : Prop := Claim7.holds Tryz.pinned (.plain (OpenSpec.upto parseNamesSpec)) parseNamesUptoCard

/-- THE SECOND FORM's CARD OF 'scriptorlaw11.ParseCounts'. -/
def parseCountsUptoCard : Claim7 := { stood := { row := parseCountsUptoRow, standIns := [], harness := (true, "2d26f66f35880c281bf30f31276801d1be0e7ec328ac9bcf9396e45b1e62918b"), looks := true }, kinds := [], alts := [], laidByText := true, laidKinds := [.data, .data, .widerDeep, .widerDeep, .data, .data, .data, .data, .data, .data, .sentinel, .sentinel, .pinned, .pinned, .pinned], laidTests := true, laidLooks := .later }
def ParseCountsUptoCardSaid : Prop := Claim7.holds Tryz.pinned (.plain (OpenSpec.upto parseCountsSpec)) parseCountsUptoCard

/-- THE SECOND FORM's CARD OF 'scriptorlaw11.ParseTops'. -/
def parseTopsUptoCard : Claim7 := { stood := { row := parseTopsUptoRow, standIns := [], harness := (true, "2d26f66f35880c281bf30f31276801d1be0e7ec328ac9bcf9396e45b1e62918b"), looks := true }, kinds := [], alts := [], laidByText := true, laidKinds := [.data, .data, .widerDeep, .widerDeep, .data, .data, .data, .data, .data, .data, .sentinel, .sentinel, .pinned, .pinned, .pinned], laidTests := true, laidLooks := .later }
def ParseTopsUptoCardSaid : Prop := Claim7.holds Tryz.pinned (.plain (OpenSpec.upto parseTopsSpec)) parseTopsUptoCard
end Rows
end Go.Proofs.YthjdnhnbgjgbkaaGreatDoor
