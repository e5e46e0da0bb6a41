/-
  DERIVED. GIVEN WITH THE SEED: THE CARDS: each row of YtnojaendcldjpaaGreatDoorRows.lean that lists a variable, with what it lists TIED to the program's text (the seventh form; the later family's looks); each row that meets fmt, with fmt's text TOLD by the authors' own Lean function (tested against real Go, not proved from fmt's source: count such statements apart). THE CARD IS WHAT COUNTS. Prove the row's statement (the work); the ties are given (YtnojaendcldjpaaGreatDoorTie.lean); close each card by the builder's one call (the guide's Derived/Test/ToyasCard.lean, 'card_holds'). Laid BY PROGRAM, IN A SANDBOX (cutbox-door.mjs). By AI agents, Wed Nov 11 2026. No macro, syntax, notation, axiom, sorry.
-/
import Derived.Test.YtnojaendcldjpaaGreatDoorRows
import GoSem.ClaimSeven
namespace Go.Proofs.YtnojaendcldjpaaGreatDoor
namespace Rows

/-- THE TIED CARD OF 'scriptorlaw13.InferTables'. -/
def inferTablesCard : Claim7 := { stood := { row := inferTablesRow, standIns := [], harness := (true, "17a71014261798d9075826d2048d3e4983f1f69f2ba61d67a2b0e71d063f7a42"), looks := true }, kinds := [], alts := [], laidByText := true, laidKinds := [.data, .data, .widerDeep, .widerDeep, .data, .data, .data, .data, .data, .data, .sentinel, .sentinel, .listed, .data, .pinned, .pinned, .pinned], laidTests := true, laidLooks := .later }
def InferTablesCardSaid : Prop := Claim7.holds Tryz.pinned (.plain (OpenSpec.ofChange inferTablesSpec)) inferTablesCard

/-- THE SECOND FORM's CARD OF 'scriptorlaw13.InferTables'. -/
def inferTablesUptoCard : Claim7 := { stood := { row := inferTablesUptoRow, standIns := [], harness := (true, "17a71014261798d9075826d2048d3e4983f1f69f2ba61d67a2b0e71d063f7a42"), looks := true }, kinds := [], alts := [], laidByText := true, laidKinds := [.data, .data, .widerDeep, .widerDeep, .data, .data, .data, .data, .data, .data, .sentinel, .sentinel, .listed, .data, .pinned, .pinned, .pinned], laidTests := true, laidLooks := .later }
def InferTablesUptoCardSaid : Prop := Claim7.holds Tryz.pinned (.plain (OpenSpec.upto inferTablesSpec)) inferTablesUptoCard
end Rows
end Go.Proofs.YtnojaendcldjpaaGreatDoor
