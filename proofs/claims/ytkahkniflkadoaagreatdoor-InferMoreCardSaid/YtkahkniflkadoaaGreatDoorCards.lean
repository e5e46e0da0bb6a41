/-
  DERIVED. GIVEN WITH THE SEED: THE CARDS: each row of YtkahkniflkadoaaGreatDoorRows.lean that lists a variable, with what it lists TIED to the program's text (the seventh form; the later family's looks); each row that meets fmt, with fmt's text TOLD by the authors' own Lean function (tested against real Go, not proved from fmt's source: count such statements apart). THE CARD IS WHAT COUNTS. Prove the row's statement (the work); the ties are given (YtkahkniflkadoaaGreatDoorTie.lean); close each card by the builder's one call (the guide's Derived/Test/ToyasCard.lean, 'card_holds'). Laid BY PROGRAM, IN A SANDBOX (cutbox-door.mjs). By AI agents, Wed Nov 11 2026. No macro, syntax, notation, axiom, sorry.
-/
import Derived.Test.YtkahkniflkadoaaGreatDoorRows
import GoSem.ClaimSeven
namespace Go.Proofs.YtkahkniflkadoaaGreatDoor
namespace Rows

/-- THE TIED CARD OF 'scriptorlaw13.InferMore'. -/
def inferMoreCard : Claim7 := { stood := { row := inferMoreRow, standIns := [], harness := (true, "54700b4c328bc259d38417e583f08b306735f1903c28cae47293de8bca63b0f5"), looks := true }, kinds := [], alts := [], laidByText := true, laidKinds := [.data, .data, .widerDeep, .widerDeep, .data, .data, .data, .data, .data, .data, .sentinel, .sentinel, .listed, .data, .pinned, .pinned, .pinned], laidTests := true, laidLooks := .later }
def InferMoreCardSaid : Prop := Claim7.holds Tryz.pinned (.plain (OpenSpec.ofChange inferMoreSpec)) inferMoreCard

/-- THE SECOND FORM's CARD OF 'scriptorlaw13.InferMore'. -/
def inferMoreUptoCard : Claim7 := { stood := { row := inferMoreUptoRow, standIns := [], harness := (true, "54700b4c328bc259d38417e583f08b306735f1903c28cae47293de8bca63b0f5"), looks := true }, kinds := [], alts := [], laidByText := true, laidKinds := [.data, .data, .widerDeep, .widerDeep, .data, .data, .data, .data, .data, .data, .sentinel, .sentinel, .listed, .data, .pinned, .pinned, .pinned], laidTests := true, laidLooks := .later }
def InferMoreUptoCardSaid : Prop := Claim7.holds Tryz.pinned (.plain (OpenSpec.upto inferMoreSpec)) inferMoreUptoCard
end Rows
end Go.Proofs.YtkahkniflkadoaaGreatDoor
