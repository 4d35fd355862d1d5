/-
  DERIVED. GIVEN WITH THE SEED: THE CARDS: each row of YtmaaepdecdhmnaaGreatDoorRows.lean that lists a variable, with what it lists TIED to the program's text (the seventh form; the later family's looks); each row that meets fmt, with fmt's text TOLD by the authors' own Lean function (tested against real Go, not proved from fmt's source: count such statements apart). THE CARD IS WHAT COUNTS. Prove the row's statement (the work); the ties are given (YtmaaepdecdhmnaaGreatDoorTie.lean); close each card by the builder's one call (the guide's Derived/Test/ToyasCard.lean, 'card_holds'). Laid BY PROGRAM, IN A SANDBOX (cutbox-door.mjs). By AI agents, Wed Nov 11 2026. No macro, syntax, notation, axiom, sorry.
-/
import Derived.Test.YtmaaepdecdhmnaaGreatDoorRows
import GoSem.ClaimSeven
namespace Go.Proofs.YtmaaepdecdhmnaaGreatDoor
namespace Rows

/-- THE TIED CARD OF 'corebanklaw25.LimitAllows'. -/
def limitAllowsCard : Claim7 := { stood := { row := limitAllowsRow, standIns := [], harness := (true, "0bf118e6010913dd751bc11b45761ac2f5cbcf0bc2e2e1e064526ed66461a2a6"), looks := true }, kinds := [], alts := [], laidByText := true, laidKinds := [.data, .data, .data, .data, .sentinel, .sentinel, .listed, .data], laidTests := true, laidLooks := .later }
def LimitAllowsCardSaid : Prop := Claim7.holds Tryz.pinned (.plain (OpenSpec.ofChange limitAllowsSpec)) limitAllowsCard

/-- THE TIED CARD OF 'corebanklaw25.LimitGuards'. -/
def limitGuardsCard : Claim7 := { stood := { row := limitGuardsRow, standIns := [], harness := (true, "0bf118e6010913dd751bc11b45761ac2f5cbcf0bc2e2e1e064526ed66461a2a6"), looks := true }, kinds := [], alts := [], laidByText := true, laidKinds := [.data, .data, .data, .data, .sentinel, .sentinel, .listed, .data], laidTests := true, laidLooks := .later }
def LimitGuardsCardSaid : Prop := Claim7.holds Tryz.pinned (.plain (OpenSpec.ofChange limitGuardsSpec)) limitGuardsCard

/-- THE SECOND FORM's CARD OF 'corebanklaw25.LimitAllows'. -/
def limitAllowsUptoCard : Claim7 := { stood := { row := limitAllowsUptoRow, standIns := [], harness := (true, "0bf118e6010913dd751bc11b45761ac2f5cbcf0bc2e2e1e064526ed66461a2a6"), looks := true }, kinds := [], alts := [], laidByText := true, laidKinds := [.data, .data, .data, .data, .sentinel, .sentinel, .listed, .data], laidTests := true, laidLooks := .later }
def LimitAllowsUptoCardSaid : Prop := Claim7.holds Tryz.pinned (.plain (OpenSpec.upto limitAllowsSpec)) limitAllowsUptoCard

/-- THE SECOND FORM's CARD OF 'corebanklaw25.LimitGuards'. -/
def limitGuardsUptoCard : Claim7 := { stood := { row := limitGuardsUptoRow, standIns := [], harness := (true, "0bf118e6010913dd751bc11b45761ac2f5cbcf0bc2e2e1e064526ed66461a2a6"), looks := true }, kinds := [], alts := [], laidByText := true, laidKinds := [.data, .data, .data, .data, .sentinel, .sentinel, .listed, .data], laidTests := true, laidLooks := .later }
def LimitGuardsUptoCardSaid : Prop := Claim7.holds Tryz.pinned (.plain (OpenSpec.upto limitGuardsSpec)) limitGuardsUptoCard
end Rows
end Go.Proofs.YtmaaepdecdhmnaaGreatDoor
