/-
  DERIVED. GIVEN WITH THE SEED: THE CARDS: each row of YtakfofnggifenaaGreatDoorRows.lean that lists a variable, with what it lists TIED to the program's text (the seventh form; the later family's looks); each row that meets fmt, with fmt's text TOLD by the authors' own Lean function (tested against real Go, not proved from fmt's source: count such statements apart). THE CARD IS WHAT COUNTS. Prove the row's statement (the work); the ties are given (YtakfofnggifenaaGreatDoorTie.lean); close each card by the builder's one call (the guide's Derived/Test/ToyasCard.lean, 'card_holds'). Laid BY PROGRAM, IN A SANDBOX (cutbox-door.mjs). By AI agents, Wed Nov 11 2026. No macro, syntax, notation, axiom, sorry.
-/
import Derived.Test.YtakfofnggifenaaGreatDoorRows
import GoSem.ClaimSeven
namespace Go.Proofs.YtakfofnggifenaaGreatDoor
namespace Rows

/-- THE TIED CARD OF 'corebanklaw29.SettleEnds'. -/
def settleEndsCard : Claim7 := { stood := { row := settleEndsRow, standIns := [], harness := (true, "2f4651aaba0be3d75943fd169c316c68e2c04a88d058065fc6fd52344ff279ef"), looks := true }, kinds := [], alts := [], laidByText := true, laidKinds := [.data, .data, .data, .data, .sentinel, .sentinel, .listed, .data], laidTests := true, laidLooks := .later }
def SettleEndsCardSaid : Prop := Claim7.holds Tryz.pinned (.plain (OpenSpec.ofChange settleEndsSpec)) settleEndsCard

/-- THE TIED CARD OF 'corebanklaw29.SettleEntries'. -/
def settleEntriesCard : Claim7 := { stood := { row := settleEntriesRow, standIns := [], harness := (true, "2f4651aaba0be3d75943fd169c316c68e2c04a88d058065fc6fd52344ff279ef"), looks := true }, kinds := [], alts := [], laidByText := true, laidKinds := [.data, .data, .data, .data, .sentinel, .sentinel, .listed, .data], laidTests := true, laidLooks := .later }
def SettleEntriesCardSaid : Prop := Claim7.holds Tryz.pinned (.plain (OpenSpec.ofChange settleEntriesSpec)) settleEntriesCard

/-- THE SECOND FORM's CARD OF 'corebanklaw29.SettleEnds'. -/
def settleEndsUptoCard : Claim7 := { stood := { row := settleEndsUptoRow, standIns := [], harness := (true, "2f4651aaba0be3d75943fd169c316c68e2c04a88d058065fc6fd52344ff279ef"), looks := true }, kinds := [], alts := [], laidByText := true, laidKinds := [.data, .data, .data, .data, .sentinel, .sentinel, .listed, .data], laidTests := true, laidLooks := .later }
def SettleEndsUptoCardSaid : Prop := Claim7.holds Tryz.pinned (.plain (OpenSpec.upto settleEndsSpec)) settleEndsUptoCard

/-- THE SECOND FORM's CARD OF 'corebanklaw29.SettleEntries'. -/
def settleEntriesUptoCard : Claim7 := { stood := { row := settleEntriesUptoRow, standIns := [], harness := (true, "2f4651aaba0be3d75943fd169c316c68e2c04a88d058065fc6fd52344ff279ef"), looks := true }, kinds := [], alts := [], laidByText := true, laidKinds := [.data, .data, .data, .data, .sentinel, .sentinel, .listed, .data], laidTests := true, laidLooks := .later }
def SettleEntriesUptoCardSaid : Prop := Claim7.holds Tryz.pinned (.plain (OpenSpec.upto settleEntriesSpec)) settleEntriesUptoCard
end Rows
end Go.Proofs.YtakfofnggifenaaGreatDoor
