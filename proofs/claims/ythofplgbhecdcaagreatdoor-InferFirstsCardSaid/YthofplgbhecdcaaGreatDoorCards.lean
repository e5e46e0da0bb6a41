/-
  DERIVED. GIVEN WITH THE SEED: THE CARDS: each row of YthofplgbhecdcaaGreatDoorRows.lean that lists a variable, with what it lists TIED to the program's text (the seventh form; the later family's looks); each row that meets fmt, with fmt's text TOLD by the authors' own Lean function (tested against real Go, not proved from fmt's source: count such statements apart). THE CARD IS WHAT COUNTS. Prove the row's statement (the work); the ties are given (YthofplgbhecdcaaGreatDoorTie.lean); close each card by the builder's one call (the guide's Derived/Test/ToyasCard.lean, 'card_holds'). Laid BY PROGRAM, IN A SANDBOX (cutbox-door.mjs). By AI agents, Wed Nov 11 2026. No macro, syntax, notation, axiom, sorry.
-/
import Derived.Test.YthofplgbhecdcaaGreatDoorRows
import GoSem.ClaimSeven
namespace Go.Proofs.YthofplgbhecdcaaGreatDoor
namespace Rows

/-- THE TIED CARD OF 'scriptorlaw13.InferFirsts'. -/
def inferFirstsCard : Claim7 := { stood := { row := inferFirstsRow, standIns := [], harness := (true, "767691bed2863743979d311181739a5cfa1915ef3d450e9902af0035c8421efd"), looks := true }, kinds := [], alts := [], laidByText := true, laidKinds := [.data, .data, .widerDeep, .widerDeep, .data, .data, .data, .data, .data, .data, .sentinel, .sentinel, .listed, .data, .pinned, .pinned, .pinned], laidTests := true, laidLooks := .later }
def InferFirstsCardSaid : Prop := Claim7.holds Tryz.pinned (.plain (OpenSpec.ofChange inferFirstsSpec)) inferFirstsCard

/-- THE SECOND FORM's CARD OF 'scriptorlaw13.InferFirsts'. -/
def inferFirstsUptoCard : Claim7 := { stood := { row := inferFirstsUptoRow, standIns := [], harness := (true, "767691bed2863743979d311181739a5cfa1915ef3d450e9902af0035c8421efd"), looks := true }, kinds := [], alts := [], laidByText := true, laidKinds := [.data, .data, .widerDeep, .widerDeep, .data, .data, .data, .data, .data, .data, .sentinel, .sentinel, .listed, .data, .pinned, .pinned, .pinned], laidTests := true, laidLooks := .later }
def InferFirstsUptoCardSaid : Prop := Claim7.holds Tryz.pinned (.plain (OpenSpec.upto inferFirstsSpec)) inferFirstsUptoCard
end Rows
end Go.Proofs.YthofplgbhecdcaaGreatDoor
