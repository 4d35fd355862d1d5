/-
  DERIVED. GIVEN WITH THE SEED: THE CARDS: each row of YtkijgkjjbanipaaGreatDoorRows.lean that lists a variable, with what it lists TIED to the program's text (the seventh form; the later family's looks); each row that meets fmt, with fmt's text TOLD by the authors' own Lean function (tested against real Go, not proved from fmt's source: count such statements apart). THE CARD IS WHAT COUNTS. Prove the row's statement (the work); the ties are given (YtkijgkjjbanipaaGreatDoorTie.lean); close each card by the builder's one call (the guide's Derived/Test/ToyasCard.lean, 'card_holds'). Laid BY PROGRAM, IN A SANDBOX (cutbox-door.mjs). By AI agents, Wed Nov 11 2026. No macro, syntax, notation, axiom, sorry.
-/
import Derived.Test.YtkijgkjjbanipaaGreatDoorRows
import GoSem.ClaimSeven
namespace Go.Proofs.YtkijgkjjbanipaaGreatDoor
namespace Rows

/-- THE TIED CARD OF 'corebanklaw25.LimitEnv'. -/
def limitEnvCard : Claim7 := { stood := { row := limitEnvRow, standIns := [], harness := (true, "c62aa00ada3ed0925493202bea42f1f82663839e79e165ad5a9d72d28d55857f"), looks := true }, kinds := [], alts := [], laidByText := true, laidKinds := [.data, .data, .data, .data, .sentinel, .sentinel, .listed, .data], laidTests := true, laidLooks := .later }
def LimitEnvCardSaid : Prop := Claim7.holds Tryz.pinned (.plain (OpenSpec.ofChange limitEnvSpec)) limitEnvCard

/-- THE TIED CARD OF 'corebanklaw25.LimitAvailable'. -/
def limitAvailableCard : Claim7 := { stood := { row := limitAvailableRow, standIns := [], harness := (true, "c62aa00ada3ed0925493202bea42f1f82663839e79e165ad5a9d72d28d55857f"), looks := true }, kinds := [], alts := [], laidByText := true, laidKinds := [.data, .data, .data, .data, .sentinel, .sentinel, .listed, .data], laidTests := true, laidLooks := .later }
def LimitAvailableCardSaid : Prop := Claim7.holds Tryz.pinned (.plain (OpenSpec.ofChange limitAvailableSpec)) limitAvailableCard

/-- THE TIED CARD OF 'corebanklaw25.LimitAllows'. -/
def limitAllowsCard : Claim7 := { stood := { row := limitAllowsRow, standIns := [], harness := (true, "c62aa00ada3ed0925493202bea42f1f82663839e79e165ad5a9d72d28d55857f"), looks := true }, kinds := [], alts := [], laidByText := true, laidKinds := [.data, .data, .data, .data, .sentinel, .sentinel, .listed, .data], laidTests := true, laidLooks := .later }
def LimitAllowsCardSaid : Prop := Claim7.holds Tryz.pinned (.plain (OpenSpec.ofChange limitAllowsSpec)) limitAllowsCard

/-- THE TIED CARD OF 'corebanklaw25.LimitFrees'. -/
def limitFreesCard : Claim7 := { stood := { row := limitFreesRow, standIns := [], harness := (true, "c62aa00ada3ed0925493202bea42f1f82663839e79e165ad5a9d72d28d55857f"), looks := true }, kinds := [], alts := [], laidByText := true, laidKinds := [.data, .data, .data, .data, .sentinel, .sentinel, .listed, .data], laidTests := true, laidLooks := .later }
def LimitFreesCardSaid : Prop := Claim7.holds Tryz.pinned (.plain (OpenSpec.ofChange limitFreesSpec)) limitFreesCard

/-- THE TIED CARD OF 'corebanklaw25.LimitHolds'. -/
def limitHoldsCard : Claim7 := { stood := { row := limitHoldsRow, standIns := [], harness := (true, "c62aa00ada3ed0925493202bea42f1f82663839e79e165ad5a9d72d28d55857f"), looks := true }, kinds := [], alts := [], laidByText := true, laidKinds := [.data, .data, .data, .data, .sentinel, .sentinel, .listed, .data], laidTests := true, laidLooks := .later }
def LimitHoldsCardSaid : Prop := Claim7.holds Tryz.pinned (.plain (OpenSpec.ofChange limitHoldsSpec)) limitHoldsCard

/-- THE TIED CARD OF 'corebanklaw25.LimitGuards'. -/
def limitGuardsCard : Claim7 := { stood := { row := limitGuardsRow, standIns := [], harness := (true, "c62aa00ada3ed0925493202bea42f1f82663839e79e165ad5a9d72d28d55857f"), looks := true }, kinds := [], alts := [], laidByText := true, laidKinds := [.data, .data, .data, .data, .sentinel, .sentinel, .listed, .data], laidTests := true, laidLooks := .later }
def LimitGuardsCardSaid : Prop := Claim7.holds Tryz.pinned (.plain (OpenSpec.ofChange limitGuardsSpec)) limitGuardsCard

/-- THE SECOND FORM's CARD OF 'corebanklaw25.LimitEnv'. -/
def limitEnvUptoCard : Claim7 := { stood := { row := limitEnvUptoRow, standIns := [], harness := (true, "c62aa00ada3ed0925493202bea42f1f82663839e79e165ad5a9d72d28d55857f"), looks := true }, kinds := [], alts := [], laidByText := true, laidKinds := [.data, .data, .data, .data, .sentinel, .sentinel, .listed, .data], laidTests := true, laidLooks := .later }
def LimitEnvUptoCardSaid : Prop := Claim7.holds Tryz.pinned (.plain (OpenSpec.upto limitEnvSpec)) limitEnvUptoCard

/-- THE SECOND FORM's CARD OF 'corebanklaw25.LimitAvailable'. -/
def limitAvailableUptoCard : Claim7 := { stood := { row := limitAvailableUptoRow, standIns := [], harness := (true, "c62aa00ada3ed0925493202bea42f1f82663839e79e165ad5a9d72d28d55857f"), looks := true }, kinds := [], alts := [], laidByText := true, laidKinds := [.data, .data, .data, .data, .sentinel, .sentinel, .listed, .data], laidTests := true, laidLooks := .later }
def LimitAvailableUptoCardSaid : Prop := Claim7.holds Tryz.pinned (.plain (OpenSpec.upto limitAvailableSpec)) limitAvailableUptoCard

/-- THE SECOND FORM's CARD OF 'corebanklaw25.LimitAllows'. -/
def limitAllowsUptoCard : Claim7 := { stood := { row := limitAllowsUptoRow, standIns := [], harness := (true, "c62aa00ada3ed0925493202bea42f1f82663839e79e165ad5a9d72d28d55857f"), looks := true }, kinds := [], alts := [], laidByText := true, laidKinds := [.data, .data, .data, .data, .sentinel, .sentinel, .listed, .data], laidTests := true, laidLooks := .later }
def LimitAllowsUptoCardSaid : Prop := Claim7.holds Tryz.pinned (.plain (OpenSpec.upto limitAllowsSpec)) limitAllowsUptoCard

/-- THE SECOND FORM's CARD OF 'corebanklaw25.LimitFrees'. -/
def limitFreesUptoCard : Claim7 := { stood := { row := limitFreesUptoRow, standIns := [], harness := (true, "c62aa00ada3ed0925493202bea42f1f82663839e79e165ad5a9d72d28d55857f"), looks := true }, kinds := [], alts := [], laidByText := true, laidKinds := [.data, .data, .data, .data, .sentinel, .sentinel, .listed, .data], laidTests := true, laidLooks := .later }
def LimitFreesUptoCardSaid : Prop := Claim7.holds Tryz.pinned (.plain (OpenSpec.upto limitFreesSpec)) limitFreesUptoCard

/-- THE SECOND FORM's CARD OF 'corebanklaw25.LimitHolds'. -/
def limitHoldsUptoCard : Claim7 := { stood := { row := limitHoldsUptoRow, standIns := [], harness := (true, "c62aa00ada3ed0925493202bea42f1f82663839e79e165ad5a9d72d28d55857f"), looks := true }, kinds := [], alts := [], laidByText := true, laidKinds := [.data, .data, .data, .data, .sentinel, .sentinel, .listed, .data], laidTests := true, laidLooks := .later }
def LimitHoldsUptoCardSaid : Prop := Claim7.holds Tryz.pinned (.plain (OpenSpec.upto limitHoldsSpec)) limitHoldsUptoCard

/-- THE SECOND FORM's CARD OF 'corebanklaw25.LimitGuards'. -/
def limitGuardsUptoCard : Claim7 := { stood := { row := limitGuardsUptoRow, standIns := [], harness := (true, "c62aa00ada3ed0925493202bea42f1f82663839e79e165ad5a9d72d28d55857f"), looks := true }, kinds := [], alts := [], laidByText := true, laidKinds := [.data, .data, .data, .data, .sentinel, .sentinel, .listed, .data], laidTests := true, laidLooks := .later }
def LimitGuardsUptoCardSaid : Prop := Claim7.holds Tryz.pinned (.plain (OpenSpec.upto limitGuardsSpec)) limitGuardsUptoCard
end Rows
end Go.Proofs.YtkijgkjjbanipaaGreatDoor
