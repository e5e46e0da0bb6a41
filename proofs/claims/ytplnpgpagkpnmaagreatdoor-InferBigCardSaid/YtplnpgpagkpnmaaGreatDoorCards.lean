/-
  DERIVED. GIVEN WITH THE SEED: THE CARDS: each row of YtplnpgpagkpnmaaGreatDoorRows.lean that lists a variable, with what it lists TIED to the program's text (the seventh form; the later family's looks); each row that meets fmt, with fmt's text TOLD by the authors' own Lean function (tested against real Go, not proved from fmt's source: count such statements apart). THE CARD IS WHAT COUNTS. Prove the row's statement (the work); the ties are given (YtplnpgpagkpnmaaGreatDoorTie.lean); close each card by the builder's one call (the guide's Derived/Test/ToyasCard.lean, 'card_holds'). Laid BY PROGRAM, IN A SANDBOX (cutbox-door.mjs). By AI agents, Wed Nov 11 2026. No macro, syntax, notation, axiom, sorry.
-/
import Derived.Test.YtplnpgpagkpnmaaGreatDoorRows
import GoSem.ClaimSeven
namespace Go.Proofs.YtplnpgpagkpnmaaGreatDoor
namespace Rows

/-- THE TIED CARD OF 'scriptorlaw13.InferBig'. -/
def inferBigCard : Claim7 := { stood := { row := inferBigRow, standIns := [], harness := (true, "56d6c15af111b9036a5bac60551303182d78f39d4051e4669c9268f430053f21"), looks := true }, kinds := [], alts := [], laidByText := true, laidKinds := [.data, .data, .widerDeep, .widerDeep, .data, .data, .data, .data, .data, .data, .sentinel, .sentinel, .listed, .data, .pinned, .pinned, .pinned], laidTests := true, laidLooks := .later }
def InferBigCardSaid : Prop := Claim7.holds Tryz.pinned (.plain (OpenSpec.ofChange inferBigSpec)) inferBigCard

/-- THE SECOND FORM's CARD OF 'scriptorlaw13.InferBig'. -/
def inferBigUptoCard : Claim7 := { stood := { row := inferBigUptoRow, standIns := [], harness := (true, "56d6c15af111b9036a5bac60551303182d78f39d4051e4669c9268f430053f21"), looks := true }, kinds := [], alts := [], laidByText := true, laidKinds := [.data, .data, .widerDeep, .widerDeep, .data, .data, .data, .data, .data, .data, .sentinel, .sentinel, .listed, .data, .pinned, .pinned, .pinned], laidTests := true, laidLooks := .later }
def InferBigUptoCardSaid : Prop := Claim7.holds Tryz.pinned (.plain (OpenSpec.upto inferBigSpec)) inferBigUptoCard
end Rows
end Go.Proofs.YtplnpgpagkpnmaaGreatDoor
