/-
  DERIVED. GIVEN WITH THE SEED: THE CARDS: each row of YtcihddahcplehaaGreatDoorRows.lean that lists a variable, with what it lists TIED to the program's text (the seventh form; the later family's looks); each row that meets fmt, with fmt's text TOLD by the authors' own Lean function (tested against real Go, not proved from fmt's source: count such statements apart). THE CARD IS WHAT COUNTS. Prove the row's statement (the work); the ties are given (YtcihddahcplehaaGreatDoorTie.lean); close each card by the builder's one call (the guide's Derived/Test/ToyasCard.lean, 'card_holds'). Laid BY PROGRAM, IN A SANDBOX (cutbox-door.mjs). By AI agents, Wed Nov 11 2026. No macro, syntax, notation, axiom, sorry.
-/
import Derived.Test.YtcihddahcplehaaGreatDoorRows
import GoSem.ClaimSeven
namespace Go.Proofs.YtcihddahcplehaaGreatDoor
namespace Rows

/-- THE TIED CARD OF 'corebanklaw25.LimitHolds'. -/
def limitHoldsCard : Claim7 := { stood := { row := limitHoldsRow, standIns := [], harness := (true, "4c8cf9f661e575d01d405b999e97c95a1db5ba8d2c8c35c8517c78a32c3b987f"), looks := true }, kinds := [], alts := [], laidByText := true, laidKinds := [.data, .data, .data, .data, .sentinel, .sentinel, .listed, .data], laidTests := true, laidLooks := .later }
def LimitHoldsCardSaid : Prop := Claim7.holds Tryz.pinned (.plain (OpenSpec.ofChange limitHoldsSpec)) limitHoldsCard

/-- THE TIED CARD OF 'corebanklaw25.LimitGuards'. -/
def limitGuardsCard : Claim7 := { stood := { row := limitGuardsRow, standIns := [], harness := (true, "4c8cf9f661e575d01d405b999e97c95a1db5ba8d2c8c35c8517c78a32c3b987f"), looks := true }, kinds := [], alts := [], laidByText := true, laidKinds := [.data, .data, .data, .data, .sentinel, .sentinel, .listed, .data], laidTests := true, laidLooks := .later }
def LimitGuardsCardSaid : Prop := Claim7.holds Tryz.pinned (.plain (OpenSpec.ofChange limitGuardsSpec)) limitGuardsCard

/-- THE SECOND FORM's CARD OF 'corebanklaw25.LimitHolds'. -/
def limitHoldsUptoCard : Claim7 := { stood := { row := limitHoldsUptoRow, standIns := [], harness := (true, "4c8cf9f661e575d01d405b999e97c95a1db5ba8d2c8c35c8517c78a32c3b987f"), looks := true }, kinds := [], alts := [], laidByText := true, laidKinds := [.data, .data, .data, .data, .sentinel, .sentinel, .listed, .data], laidTests := true, laidLooks := .later }
def LimitHoldsUptoCardSaid : Prop := Claim7.holds Tryz.pinned (.plain (OpenSpec.upto limitHoldsSpec)) limitHoldsUptoCard

/-- THE SECOND FORM's CARD OF 'corebanklaw25.LimitGuards'. -/
def limitGuardsUptoCard : Claim7 := { stood := { row := limitGuardsUptoRow, standIns := [], harness := (true, "4c8cf9f661e575d01d405b999e97c95a1db5ba8d2c8c35c8517c78a32c3b987f"), looks := true }, kinds := [], alts := [], laidByText := true, laidKinds := [.data, .data, .data, .data, .sentinel, .sentinel, .listed, .data], laidTests := true, laidLooks := .later }
def LimitGuardsUptoCardSaid : Prop := Claim7.holds Tryz.pinned (.plain (OpenSpec.upto limitGuardsSpec)) limitGuardsUptoCard
end Rows
end Go.Proofs.YtcihddahcplehaaGreatDoor
