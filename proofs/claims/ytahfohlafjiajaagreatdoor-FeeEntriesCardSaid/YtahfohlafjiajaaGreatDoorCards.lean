/-
  DERIVED. GIVEN WITH THE SEED: THE CARDS: each row of YtahfohlafjiajaaGreatDoorRows.lean that lists a variable, with what it lists TIED to the program's text (the seventh form; the later family's looks); each row that meets fmt, with fmt's text TOLD by the authors' own Lean function (tested against real Go, not proved from fmt's source: count such statements apart). THE CARD IS WHAT COUNTS. Prove the row's statement (the work); the ties are given (YtahfohlafjiajaaGreatDoorTie.lean); close each card by the builder's one call (the guide's Derived/Test/ToyasCard.lean, 'card_holds'). Laid BY PROGRAM, IN A SANDBOX (cutbox-door.mjs). By AI agents, Wed Nov 11 2026. No macro, syntax, notation, axiom, sorry.
-/
import Derived.Test.YtahfohlafjiajaaGreatDoorRows
import GoSem.ClaimSeven
namespace Go.Proofs.YtahfohlafjiajaaGreatDoor
namespace Rows

/-- THE TIED CARD OF 'corebanklaw28.FeeDue'. -/
def feeDueCard : Claim7 := { stood := { row := feeDueRow, standIns := [], harness := (true, "a103b0d8de94d42e788c28a249f6b6776fb42f669c3096ea2c81aabe96aa899b"), looks := true }, kinds := [], alts := [], laidByText := true, laidKinds := [.data, .data, .data, .data, .sentinel, .sentinel, .listed, .data], laidTests := true, laidLooks := .later }
def FeeDueCardSaid : Prop := Claim7.holds Tryz.pinned (.plain (OpenSpec.ofChange feeDueSpec)) feeDueCard

/-- THE TIED CARD OF 'corebanklaw28.FeeEntries'. -/
def feeEntriesCard : Claim7 := { stood := { row := feeEntriesRow, standIns := [], harness := (true, "a103b0d8de94d42e788c28a249f6b6776fb42f669c3096ea2c81aabe96aa899b"), looks := true }, kinds := [], alts := [], laidByText := true, laidKinds := [.data, .data, .data, .data, .sentinel, .sentinel, .listed, .data], laidTests := true, laidLooks := .later }
def FeeEntriesCardSaid : Prop := Claim7.holds Tryz.pinned (.plain (OpenSpec.ofChange feeEntriesSpec)) feeEntriesCard

/-- THE TIED CARD OF 'corebanklaw28.FeeApart'. -/
def feeApartCard : Claim7 := { stood := { row := feeApartRow, standIns := [], harness := (true, "a103b0d8de94d42e788c28a249f6b6776fb42f669c3096ea2c81aabe96aa899b"), looks := true }, kinds := [], alts := [], laidByText := true, laidKinds := [.data, .data, .data, .data, .sentinel, .sentinel, .listed, .data], laidTests := true, laidLooks := .later }
def FeeApartCardSaid : Prop := Claim7.holds Tryz.pinned (.plain (OpenSpec.ofChange feeApartSpec)) feeApartCard

/-- THE TIED CARD OF 'corebanklaw28.FeeCharges'. -/
def feeChargesCard : Claim7 := { stood := { row := feeChargesRow, standIns := [], harness := (true, "a103b0d8de94d42e788c28a249f6b6776fb42f669c3096ea2c81aabe96aa899b"), looks := true }, kinds := [], alts := [], laidByText := true, laidKinds := [.data, .data, .data, .data, .sentinel, .sentinel, .listed, .data], laidTests := true, laidLooks := .later }
def FeeChargesCardSaid : Prop := Claim7.holds Tryz.pinned (.plain (OpenSpec.ofChange feeChargesSpec)) feeChargesCard

/-- THE SECOND FORM's CARD OF 'corebanklaw28.FeeDue'. -/
def feeDueUptoCard : Claim7 := { stood := { row := feeDueUptoRow, standIns := [], harness := (true, "a103b0d8de94d42e788c28a249f6b6776fb42f669c3096ea2c81aabe96aa899b"), looks := true }, kinds := [], alts := [], laidByText := true, laidKinds := [.data, .data, .data, .data, .sentinel, .sentinel, .listed, .data], laidTests := true, laidLooks := .later }
def FeeDueUptoCardSaid : Prop := Claim7.holds Tryz.pinned (.plain (OpenSpec.upto feeDueSpec)) feeDueUptoCard

/-- THE SECOND FORM's CARD OF 'corebanklaw28.FeeEntries'. -/
def feeEntriesUptoCard : Claim7 := { stood := { row := feeEntriesUptoRow, standIns := [], harness := (true, "a103b0d8de94d42e788c28a249f6b6776fb42f669c3096ea2c81aabe96aa899b"), looks := true }, kinds := [], alts := [], laidByText := true, laidKinds := [.data, .data, .data, .data, .sentinel, .sentinel, .listed, .data], laidTests := true, laidLooks := .later }
def FeeEntriesUptoCardSaid : Prop := Claim7.holds Tryz.pinned (.plain (OpenSpec.upto feeEntriesSpec)) feeEntriesUptoCard

/-- THE SECOND FORM's CARD OF 'corebanklaw28.FeeApart'. -/
def feeApartUptoCard : Claim7 := { stood := { row := feeApartUptoRow, standIns := [], harness := (true, "a103b0d8de94d42e788c28a249f6b6776fb42f669c3096ea2c81aabe96aa899b"), looks := true }, kinds := [], alts := [], laidByText := true, laidKinds := [.data, .data, .data, .data, .sentinel, .sentinel, .listed, .data], laidTests := true, laidLooks := .later }
def FeeApartUptoCardSaid : Prop := Claim7.holds Tryz.pinned (.plain (OpenSpec.upto feeApartSpec)) feeApartUptoCard

/-- THE SECOND FORM's CARD OF 'corebanklaw28.FeeCharges'. -/
def feeChargesUptoCard : Claim7 := { stood := { row := feeChargesUptoRow, standIns := [], harness := (true, "a103b0d8de94d42e788c28a249f6b6776fb42f669c3096ea2c81aabe96aa899b"), looks := true }, kinds := [], alts := [], laidByText := true, laidKinds := [.data, .data, .data, .data, .sentinel, .sentinel, .listed, .data], laidTests := true, laidLooks := .later }
def FeeChargesUptoCardSaid : Prop := Claim7.holds Tryz.pinned (.plain (OpenSpec.upto feeChargesSpec)) feeChargesUptoCard
end Rows
end Go.Proofs.YtahfohlafjiajaaGreatDoor
