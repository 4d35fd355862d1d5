/-
  DERIVED. GIVEN WITH THE SEED: THE CARDS: each row of YtpjacfiddgajfaaGreatDoorRows.lean that lists a variable, with what it lists TIED to the program's text (the seventh form; the later family's looks); each row that meets fmt, with fmt's text TOLD by the authors' own Lean function (tested against real Go, not proved from fmt's source: count such statements apart). THE CARD IS WHAT COUNTS. Prove the row's statement (the work); the ties are given (YtpjacfiddgajfaaGreatDoorTie.lean); close each card by the builder's one call (the guide's Derived/Test/ToyasCard.lean, 'card_holds'). Laid BY PROGRAM, IN A SANDBOX (cutbox-door.mjs). By AI agents, Wed Nov 11 2026. No macro, syntax, notation, axiom, sorry.
-/
import Derived.Test.YtpjacfiddgajfaaGreatDoorRows
import GoSem.ClaimSeven
namespace Go.Proofs.YtpjacfiddgajfaaGreatDoor
namespace Rows

/-- THE TIED CARD OF 'corebanklaw52.EodKeys'. -/
def eodKeysCard : Claim7 := { stood := { row := eodKeysRow, standIns := [], harness := (true, "a2729952953464776c5a6283b4def01d349ad2adec99608c6f3592a7dec96f99"), looks := true }, kinds := [], alts := [], laidByText := true, laidKinds := [.data, .data, .data, .data, .listed, .sentinel, .sentinel, .data, .data], laidTests := true, laidLooks := .later }
def EodKeysCardSaid : Prop := Claim7.holds Tryz.pinned (.plain (OpenSpec.ofChange eodKeysSpec)) eodKeysCard

/-- THE TIED CARD OF 'corebanklaw52.EodBefore'. -/
def eodBeforeCard : Claim7 := { stood := { row := eodBeforeRow, standIns := [], harness := (true, "a2729952953464776c5a6283b4def01d349ad2adec99608c6f3592a7dec96f99"), looks := true }, kinds := [], alts := [], laidByText := true, laidKinds := [.data, .data, .data, .data, .listed, .sentinel, .sentinel, .data, .data], laidTests := true, laidLooks := .later }
def EodBeforeCardSaid : Prop := Claim7.holds Tryz.pinned (.plain (OpenSpec.ofChange eodBeforeSpec)) eodBeforeCard

/-- THE SECOND FORM's CARD OF 'corebanklaw52.EodKeys'. -/
def eodKeysUptoCard : Claim7 := { stood := { row := eodKeysUptoRow, standIns := [], harness := (true, "a2729952953464776c5a6283b4def01d349ad2adec99608c6f3592a7dec96f99"), looks := true }, kinds := [], alts := [], laidByText := true, laidKinds := [.data, .data, .data, .data, .listed, .sentinel, .sentinel, .data, .data], laidTests := true, laidLooks := .later }
def EodKeysUptoCardSaid : Prop := Claim7.holds Tryz.pinned (.plain (OpenSpec.upto eodKeysSpec)) eodKeysUptoCard

/-- THE SECOND FORM's CARD OF 'corebanklaw52.EodBefore'. -/
def eodBeforeUptoCard : Claim7 := { stood := { row := eodBeforeUptoRow, standIns := [], harness := (true, "a2729952953464776c5a6283b4def01d349ad2adec99608c6f3592a7dec96f99"), looks := true }, kinds := [], alts := [], laidByText := true, laidKinds := [.data, .data, .data, .data, .listed, .sentinel, .sentinel, .data, .data], laidTests := true, laidLooks := .later }
def EodBeforeUptoCardSaid : Prop := Claim7.holds Tryz.pinned (.plain (OpenSpec.upto eodBeforeSpec)) eodBeforeUptoCard
end Rows
end Go.Proofs.YtpjacfiddgajfaaGreatDoor
