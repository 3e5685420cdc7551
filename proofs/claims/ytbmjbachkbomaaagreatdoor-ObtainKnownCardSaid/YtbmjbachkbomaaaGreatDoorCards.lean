/-
  DERIVED. GIVEN WITH THE SEED: THE CARDS: each row of YtbmjbachkbomaaaGreatDoorRows.lean that lists a variable, with what it lists TIED to the program's text (the seventh form; the later family's looks); each row that meets fmt, with fmt's text TOLD by the authors' own Lean function (tested against real Go, not proved from fmt's source: count such statements apart). THE CARD IS WHAT COUNTS. Prove the row's statement (the work); the ties are given (YtbmjbachkbomaaaGreatDoorTie.lean); close each card by the builder's one call (the guide's Derived/Test/ToyasCard.lean, 'card_holds'). Laid BY PROGRAM, IN A SANDBOX (cutbox-door.mjs). By AI agents, Wed Nov 11 2026. No macro, syntax, notation, axiom, sorry.
-/
import Derived.Test.YtbmjbachkbomaaaGreatDoorRows
import GoSem.ClaimSeven
namespace Go.Proofs.YtbmjbachkbomaaaGreatDoor
namespace Rows

/-- THE TIED CARD OF 'inlaylaw30.ObtainKnown'. -/
def obtainKnownCard : Claim7 := { stood := { row := obtainKnownRow, standIns := [], harness := (true, "5f045572b7c717b0c5f55a566e37b9130b18e1c17c6678d1098773d936b79b26"), looks := true }, kinds := [], alts := [], laidByText := true, laidKinds := [.data, .data, .data, .data, .sentinel, .sentinel, .listed, .data, .pinned, .pinned], laidTests := true, laidLooks := .later }
def ObtainKnownCardSaid : Prop := Claim7.holds Tryz.pinned (.plain (OpenSpec.ofChange obtainKnownSpec)) obtainKnownCard

/-- THE SECOND FORM's CARD OF 'inlaylaw30.ObtainKnown'. -/
def obtainKnownUptoCard : Claim7 := { stood := { row := obtainKnownUptoRow, standIns := [], harness := (true, "5f045572b7c717b0c5f55a566e37b9130b18e1c17c6678d1098773d936b79b26"), looks := true }, kinds := [], alts := [], laidByText := true, laidKinds := [.data, .data, .data, .data, .sentinel, .sentinel, .listed, .data, .pinned, .pinned], laidTests := true, laidLooks := .later }
def ObtainKnownUptoCardSaid : Prop := Claim7.holds Tryz.pinned (.plain (OpenSpec.upto obtainKnownSpec)) obtainKnownUptoCard
end Rows
end Go.Proofs.YtbmjbachkbomaaaGreatDoor
