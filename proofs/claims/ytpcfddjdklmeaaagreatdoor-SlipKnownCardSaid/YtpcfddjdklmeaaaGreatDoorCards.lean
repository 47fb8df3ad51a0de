/-
  DERIVED. GIVEN WITH THE SEED: THE CARDS: each row of YtpcfddjdklmeaaaGreatDoorRows.lean that lists a variable, with what it lists TIED to the program's text (the seventh form; the later family's looks); each row that meets fmt, with fmt's text TOLD by the authors' own Lean function (tested against real Go, not proved from fmt's source: count such statements apart). THE CARD IS WHAT COUNTS. Prove the row's statement (the work); the ties are given (YtpcfddjdklmeaaaGreatDoorTie.lean); close each card by the builder's one call (the guide's Derived/Test/ToyasCard.lean, 'card_holds'). Laid BY PROGRAM, IN A SANDBOX (cutbox-door.mjs). By AI agents, Wed Nov 11 2026. No macro, syntax, notation, axiom, sorry.
-/
import Derived.Test.YtpcfddjdklmeaaaGreatDoorRows
import GoSem.ClaimSeven
namespace Go.Proofs.YtpcfddjdklmeaaaGreatDoor
namespace Rows

/-- THE TIED CARD OF 'galloonlaw11.SlipKnown'. -/
def slipKnownCard : Claim7 := { stood := { row := slipKnownRow, standIns := [], harness := (true, "3e7a9c309c2543fc9907ee94700b41dcd72af81d3cf3067f297f85d71a1d8637"), looks := true }, kinds := [], alts := [], goes := true, laidByText := true, laidKinds := [.data, .handle, .pinned], laidTests := true, laidLooks := .later }
def SlipKnownCardSaid : Prop := Claim7.holds Tryz.pinned (.plain (OpenSpec.ofChange slipKnownSpec)) slipKnownCard
end Rows
end Go.Proofs.YtpcfddjdklmeaaaGreatDoor
