/-
  DERIVED. GIVEN WITH THE SEED: THE CARDS: each row of YtpfeklkomlghlaaGreatDoorRows.lean that lists a variable, with what it lists TIED to the program's text (the seventh form; the later family's looks); each row that meets fmt, with fmt's text TOLD by the authors' own Lean function (tested against real Go, not proved from fmt's source: count such statements apart). THE CARD IS WHAT COUNTS. Prove the row's statement (the work); the ties are given (YtpfeklkomlghlaaGreatDoorTie.lean); close each card by the builder's one call (the guide's Derived/Test/ToyasCard.lean, 'card_holds'). Laid BY PROGRAM, IN A SANDBOX (cutbox-door.mjs). By AI agents, Wed Nov 11 2026. No macro, syntax, notation, axiom, sorry.
-/
import Derived.Test.YtpfeklkomlghlaaGreatDoorRows
import GoSem.ClaimSeven
namespace Go.Proofs.YtpfeklkomlghlaaGreatDoor
namespace Rows

/-- THE TIED CARD OF 'corebanklaw28.FeeCharges'. -/
def feeChargesCard : Claim7 := { stood := { row := feeChargesRow, standIns := [], harness := (true, "90eddab64f2557b976f4c6cd6e8ee3216f32ff1d24323ae56903a5f469779f78"), looks := true }, kinds := [], alts := [], laidByText := true, laidKinds := [.data, .data, .data, .data, .sentinel, .sentinel, .listed, .data], laidTests := true, laidLooks := .later }
def FeeChargesCardSaid : Prop := Claim7.holds Tryz.pinned (.plain (OpenSpec.ofChange feeChargesSpec)) feeChargesCard

/-- THE SECOND FORM's CARD OF 'corebanklaw28.FeeCharges'. -/
def feeChargesUptoCard : Claim7 := { stood := { row := feeChargesUptoRow, standIns := [], harness := (true, "90eddab64f2557b976f4c6cd6e8ee3216f32ff1d24323ae56903a5f469779f78"), looks := true }, kinds := [], alts := [], laidByText := true, laidKinds := [.data, .data, .data, .data, .sentinel, .sentinel, .listed, .data], laidTests := true, laidLooks := .later }
def FeeChargesUptoCardSaid : Prop := Claim7.holds Tryz.pinned (.plain (OpenSpec.upto feeChargesSpec)) feeChargesUptoCard
end Rows
end Go.Proofs.YtpfeklkomlghlaaGreatDoor
