/-
  DERIVED. GIVEN WITH THE SEED: THE CARDS: each row of YtgdndhedjlmagaaGreatDoorRows.lean that lists a variable, with what it lists TIED to the program's text (the seventh form; the later family's looks); each row that meets fmt, with fmt's text TOLD by the authors' own Lean function (tested against real Go, not proved from fmt's source: count such statements apart). THE CARD IS WHAT COUNTS. Prove the row's statement (the work); the ties are given (YtgdndhedjlmagaaGreatDoorTie.lean); close each card by the builder's one call (the guide's Derived/Test/ToyasCard.lean, 'card_holds'). Laid BY PROGRAM, IN A SANDBOX (cutbox-door.mjs). By AI agents, Wed Nov 11 2026. No macro, syntax, notation, axiom, sorry.
-/
import Derived.Test.YtgdndhedjlmagaaGreatDoorRows
import GoSem.ClaimSeven
namespace Go.Proofs.YtgdndhedjlmagaaGreatDoor
namespace Rows

/-- THE TIED CARD OF 'scriptorlaw13.InferWraps'. -/
def inferWrapsCard : Claim7 := { stood := { row := inferWrapsRow, standIns := [], harness := (true, "d82eed17d7992cd12b14a70406dfd57b4c15629491a0f6f04121f2eadad6aab9"), looks := true }, kinds := [], alts := [], laidByText := true, laidKinds := [.data, .data, .widerDeep, .widerDeep, .data, .data, .data, .data, .data, .data, .sentinel, .sentinel, .listed, .data, .pinned, .pinned, .pinned], laidTests := true, laidLooks := .later }
def InferWrapsCardSaid : Prop := Claim7.holds Tryz.pinned (.plain (OpenSpec.ofChange inferWrapsSpec)) inferWrapsCard

/-- THE SECOND FORM's CARD OF 'scriptorlaw13.InferWraps'. -/
def inferWrapsUptoCard : Claim7 := { stood := { row := inferWrapsUptoRow, standIns := [], harness := (true, "d82eed17d7992cd12b14a70406dfd57b4c15629491a0f6f04121f2eadad6aab9"), looks := true }, kinds := [], alts := [], laidByText := true, laidKinds := [.data, .data, .widerDeep, .widerDeep, .data, .data, .data, .data, .data, .data, .sentinel, .sentinel, .listed, .data, .pinned, .pinned, .pinned], laidTests := true, laidLooks := .later }
def InferWrapsUptoCardSaid : Prop := Claim7.holds Tryz.pinned (.plain (OpenSpec.upto inferWrapsSpec)) inferWrapsUptoCard
end Rows
end Go.Proofs.YtgdndhedjlmagaaGreatDoor
