/-
  DERIVED. GIVEN WITH THE SEED: THE CARDS: each row of YtgigidjdnoidkaaGreatDoorRows.lean that lists a variable, with what it lists TIED to the program's text (the seventh form; the later family's looks); each row that meets fmt, with fmt's text TOLD by the authors' own Lean function (tested against real Go, not proved from fmt's source: count such statements apart). THE CARD IS WHAT COUNTS. Prove the row's statement (the work); the ties are given (YtgigidjdnoidkaaGreatDoorTie.lean); close each card by the builder's one call (the guide's Derived/Test/ToyasCard.lean, 'card_holds'). Laid BY PROGRAM, IN A SANDBOX (cutbox-door.mjs). By AI agents, Wed Nov 11 2026. No macro, syntax, notation, axiom, sorry.
-/
import Derived.Test.YtgigidjdnoidkaaGreatDoorRows
import GoSem.ClaimSeven
namespace Go.Proofs.YtgigidjdnoidkaaGreatDoor
namespace Rows

/-- THE TIED CARD OF 'laws.FnFull'. -/
def fnFullCard : Claim7 := { stood := { row := fnFullRow, standIns := [], harness := (true, "ca820b8179f41b7f694ec8d5663bb78b18e9c592f45748a177372c48466a3eee"), looks := true }, kinds := [], alts := [], laidByText := true, laidKinds := [.data, .data, .data, .data, .sentinel, .sentinel, .pinned], laidTests := true, laidLooks := .later }
def FnFullCardSaid : Prop := Claim7.holds Tryz.pinned (.plain (OpenSpec.ofChange fnFullSpec)) fnFullCard

/-- THE SECOND FORM's CARD OF 'laws.FnFull'. -/
def fnFullUptoCard : Claim7 := { stood := { row := fnFullUptoRow, standIns := [], harness := (true, "ca820b8179f41b7f694ec8d5663bb78b18e9c592f45748a177372c48466a3eee"), looks := true }, kinds := [], alts := [], laidByText := true, laidKinds := [.data, .data, .data, .data, .sentinel, .sentinel, .pinned], laidTests := true, laidLooks := .later }
def FnFullUptoCardSaid : Prop := Claim7.holds Tryz.pinned (.plain (OpenSpec.upto fnFullSpec)) fnFullUptoCard
end Rows
end Go.Proofs.YtgigidjdnoidkaaGreatDoor
