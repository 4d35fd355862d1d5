/-
  DERIVED. GIVEN WITH THE SEED: THE CARDS: each row of YtabmmheiohiieaaGreatDoorRows.lean that lists a variable, with what it lists TIED to the program's text (the seventh form; the later family's looks); each row that meets fmt, with fmt's text TOLD by the authors' own Lean function (tested against real Go, not proved from fmt's source: count such statements apart). THE CARD IS WHAT COUNTS. Prove the row's statement (the work); the ties are given (YtabmmheiohiieaaGreatDoorTie.lean); close each card by the builder's one call (the guide's Derived/Test/ToyasCard.lean, 'card_holds'). Laid BY PROGRAM, IN A SANDBOX (cutbox-door.mjs). By AI agents, Wed Nov 11 2026. No macro, syntax, notation, axiom, sorry.
-/
import Derived.Test.YtabmmheiohiieaaGreatDoorRows
import GoSem.ClaimSeven
namespace Go.Proofs.YtabmmheiohiieaaGreatDoor
namespace Rows

/-- THE TIED CARD OF 'corebanklaw51.BankSames'. -/
def bankSamesCard : Claim7 := { stood := { row := bankSamesRow, standIns := [], harness := (true, "c983db97be291ef6630024ece6fdadb2382d050bf9880f47ce8a06ee3c1a70a2"), looks := true }, kinds := [], alts := [], laidByText := true, laidKinds := [.data, .listed, .sentinel, .sentinel, .data, .data, .data, .data], laidTests := true, laidLooks := .later }
def BankSamesCardSaid : Prop := Claim7.holds Tryz.pinned (.plain (OpenSpec.ofChange bankSamesSpec)) bankSamesCard

/-- THE SECOND FORM's CARD OF 'corebanklaw51.BankSames'. -/
def bankSamesUptoCard : Claim7 := { stood := { row := bankSamesUptoRow, standIns := [], harness := (true, "c983db97be291ef6630024ece6fdadb2382d050bf9880f47ce8a06ee3c1a70a2"), looks := true }, kinds := [], alts := [], laidByText := true, laidKinds := [.data, .listed, .sentinel, .sentinel, .data, .data, .data, .data], laidTests := true, laidLooks := .later }
def BankSamesUptoCardSaid : Prop := Claim7.holds Tryz.pinned (.plain (OpenSpec.upto bankSamesSpec)) bankSamesUptoCard
end Rows
end Go.Proofs.YtabmmheiohiieaaGreatDoor
