/-
  DERIVED. GIVEN WITH THE SEED: THE CARDS: each row of YtegedalegfadgaaGreatDoorRows.lean that lists a variable, with what it lists TIED to the program's text (the seventh form; the later family's looks); each row that meets fmt, with fmt's text TOLD by the authors' own Lean function (tested against real Go, not proved from fmt's source: count such statements apart). THE CARD IS WHAT COUNTS. Prove the row's statement (the work); the ties are given (YtegedalegfadgaaGreatDoorTie.lean); close each card by the builder's one call (the guide's Derived/Test/ToyasCard.lean, 'card_holds'). Laid BY PROGRAM, IN A SANDBOX (cutbox-door.mjs). By AI agents, Wed Nov 11 2026. No macro, syntax, notation, axiom, sorry.
-/
import Derived.Test.YtegedalegfadgaaGreatDoorRows
import GoSem.ClaimSeven
namespace Go.Proofs.YtegedalegfadgaaGreatDoor
namespace Rows

/-- THE TIED CARD OF 'scriptorlaw13.InferChains'. -/
def inferChainsCard : Claim7 := { stood := { row := inferChainsRow, standIns := [], harness := (true, "238f38056a20eb1b4c29aadfda95b10bad1f0f007509ff80c9f8f03938f57651"), looks := true }, kinds := [], alts := [], laidByText := true, laidKinds := [.data, .data, .widerDeep, .widerDeep, .data, .data, .data, .data, .data, .data, .sentinel, .sentinel, .listed, .data, .pinned, .pinned, .pinned], laidTests := true, laidLooks := .later }
def InferChainsCardSaid : Prop := Claim7.holds Tryz.pinned (.plain (OpenSpec.ofChange inferChainsSpec)) inferChainsCard

/-- THE SECOND FORM's CARD OF 'scriptorlaw13.InferChains'. -/
def inferChainsUptoCard : Claim7 := { stood := { row := inferChainsUptoRow, standIns := [], harness := (true, "238f38056a20eb1b4c29aadfda95b10bad1f0f007509ff80c9f8f03938f57651"), looks := true }, kinds := [], alts := [], laidByText := true, laidKinds := [.data, .data, .widerDeep, .widerDeep, .data, .data, .data, .data, .data, .data, .sentinel, .sentinel, .listed, .data, .pinned, .pinned, .pinned], laidTests := true, laidLooks := .later }
def InferChainsUptoCardSaid : Prop := Claim7.holds Tryz.pinned (.plain (OpenSpec.upto inferChainsSpec)) inferChainsUptoCard
end Rows
end Go.Proofs.YtegedalegfadgaaGreatDoor
