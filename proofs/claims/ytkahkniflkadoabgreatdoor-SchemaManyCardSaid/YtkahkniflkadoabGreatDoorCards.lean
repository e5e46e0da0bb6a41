/-
  DERIVED. GIVEN WITH THE SEED: THE CARDS: each row of YtkahkniflkadoabGreatDoorRows.lean that lists a variable, with what it lists TIED to the program's text (the seventh form; the later family's looks); each row that meets fmt, with fmt's text TOLD by the authors' own Lean function (tested against real Go, not proved from fmt's source: count such statements apart). THE CARD IS WHAT COUNTS. Prove the row's statement (the work); the ties are given (YtkahkniflkadoabGreatDoorTie.lean); close each card by the builder's one call (the guide's Derived/Test/ToyasCard.lean, 'card_holds'). Laid BY PROGRAM, IN A SANDBOX (cutbox-door.mjs). By AI agents, Wed Nov 11 2026. No macro, syntax, notation, axiom, sorry.
-/
import Derived.Test.YtkahkniflkadoabGreatDoorRows
import GoSem.ClaimSeven
namespace Go.Proofs.YtkahkniflkadoabGreatDoor
namespace Rows

/-- THE TIED CARD OF 'scriptorlaw14.SchemaMany'. -/
def schemaManyCard : Claim7 := { stood := { row := schemaManyRow, standIns := [], harness := (true, "d996beb97ea54ffd1632393dc7d5ab1aa17b3bcb272df2dea5a2cbfa5aaaee1e"), looks := true }, kinds := [], alts := [], laidByText := true, laidKinds := [.data, .data, .widerDeep, .widerDeep, .data, .data, .data, .data, .data, .data, .sentinel, .sentinel, .listed, .data, .pinned, .pinned, .pinned], laidTests := true, laidLooks := .later }
def SchemaManyCardSaid : Prop := Claim7.holds Tryz.pinned (.plain (OpenSpec.ofChange schemaManySpec)) schemaManyCard

/-- THE SECOND FORM's CARD OF 'scriptorlaw14.SchemaMany'. -/
def schemaManyUptoCard : Claim7 := { stood := { row := schemaManyUptoRow, standIns := [], harness := (true, "d996beb97ea54ffd1632393dc7d5ab1aa17b3bcb272df2dea5a2cbfa5aaaee1e"), looks := true }, kinds := [], alts := [], laidByText := true, laidKinds := [.data, .data, .widerDeep, .widerDeep, .data, .data, .data, .data, .data, .data, .sentinel, .sentinel, .listed, .data, .pinned, .pinned, .pinned], laidTests := true, laidLooks := .later }
def SchemaManyUptoCardSaid : Prop := Claim7.holds Tryz.pinned (.plain (OpenSpec.upto schemaManySpec)) schemaManyUptoCard
end Rows
end Go.Proofs.YtkahkniflkadoabGreatDoor
