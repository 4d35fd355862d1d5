/-
  DERIVED. GIVEN WITH THE SEED: THE CARDS: each row of YtehcjdaedhmkdaaGreatDoorRows.lean that lists a variable, with what it lists TIED to the program's text (the seventh form; the later family's looks); each row that meets fmt, with fmt's text TOLD by the authors' own Lean function (tested against real Go, not proved from fmt's source: count such statements apart). THE CARD IS WHAT COUNTS. Prove the row's statement (the work); the ties are given (YtehcjdaedhmkdaaGreatDoorTie.lean); close each card by the builder's one call (the guide's Derived/Test/ToyasCard.lean, 'card_holds'). Laid BY PROGRAM, IN A SANDBOX (cutbox-door.mjs). By AI agents, Wed Nov 11 2026. No macro, syntax, notation, axiom, sorry.
-/
import Derived.Test.YtehcjdaedhmkdaaGreatDoorRows
import GoSem.ClaimSeven
namespace Go.Proofs.YtehcjdaedhmkdaaGreatDoor
namespace Rows

/-- THE TIED CARD OF 'corebanklaw51.BankPaid'. -/
def bankPaidCard : Claim7 := { stood := { row := bankPaidRow, standIns := [], harness := (true, "071ecefb41a628626b07548329ea6d75366359bcbf8f8cf5e667c0671e9bd047"), looks := true }, kinds := [], alts := [], laidByText := true, laidKinds := [.data, .listed, .sentinel, .sentinel, .data, .data, .data, .data], laidTests := true, laidLooks := .later }
def BankPaidCardSaid : Prop := Claim7.holds Tryz.pinned (.plain (OpenSpec.ofChange bankPaidSpec)) bankPaidCard

/-- THE TIED CARD OF 'corebanklaw51.BankLoans'. -/
def bankLoansCard : Claim7 := { stood := { row := bankLoansRow, standIns := [], harness := (true, "071ecefb41a628626b07548329ea6d75366359bcbf8f8cf5e667c0671e9bd047"), looks := true }, kinds := [], alts := [], laidByText := true, laidKinds := [.data, .listed, .sentinel, .sentinel, .data, .data, .data, .data], laidTests := true, laidLooks := .later }
def BankLoansCardSaid : Prop := Claim7.holds Tryz.pinned (.plain (OpenSpec.ofChange bankLoansSpec)) bankLoansCard

/-- THE SECOND FORM's CARD OF 'corebanklaw51.BankPaid'. -/
def bankPaidUptoCard : Claim7 := { stood := { row := bankPaidUptoRow, standIns := [], harness := (true, "071ecefb41a628626b07548329ea6d75366359bcbf8f8cf5e667c0671e9bd047"), looks := true }, kinds := [], alts := [], laidByText := true, laidKinds := [.data, .listed, .sentinel, .sentinel, .data, .data, .data, .data], laidTests := true, laidLooks := .later }
def BankPaidUptoCardSaid : Prop := Claim7.holds Tryz.pinned (.plain (OpenSpec.upto bankPaidSpec)) bankPaidUptoCard

/-- THE SECOND FORM's CARD OF 'corebanklaw51.BankLoans'. -/
def bankLoansUptoCard : Claim7 := { stood := { row := bankLoansUptoRow, standIns := [], harness := (true, "071ecefb41a628626b07548329ea6d75366359bcbf8f8cf5e667c0671e9bd047"), looks := true }, kinds := [], alts := [], laidByText := true, laidKinds := [.data, .listed, .sentinel, .sentinel, .data, .data, .data, .data], laidTests := true, laidLooks := .later }
def BankLoansUptoCardSaid : Prop := Claim7.holds Tryz.pinned (.plain (OpenSpec.upto bankLoansSpec)) bankLoansUptoCard
end Rows
end Go.Proofs.YtehcjdaedhmkdaaGreatDoor
