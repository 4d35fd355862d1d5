/- Part 48 of the proof: CbProof52. -/
import Derived.Test.YtpjacfiddgajfaaGreatDoorB33
import Derived.Test.YtpjacfiddgajfaaGreatDoorB40
import Derived.Test.YtpjacfiddgajfaaGreatDoorB41
import Derived.Test.YtpjacfiddgajfaaGreatDoorB42
import Derived.Test.YtpjacfiddgajfaaGreatDoorB43
import Derived.Test.YtpjacfiddgajfaaGreatDoorB44
import Derived.Test.YtpjacfiddgajfaaGreatDoorB47
import Derived.Test.YtpjacfiddgajfaaGreatDoorRows
import Derived.Test.YtpjacfiddgajfaaGreatDoorCards
import Derived.SevenTiedAt
open Go Go.Sim Go.RowKit Go.ChangeShapes Go.WideShapes
namespace Go.Proofs.YtpjacfiddgajfaaGreatDoor
set_option maxRecDepth 100000
theorem eodKeys_card : Rows.EodKeysCardSaid :=
 Claim7.holds_tied_plain_at .later [] [.data, .data, .data, .data, .listed, .sentinel, .sentinel, .data, .data] true (true, "a2729952953464776c5a6283b4def01d349ad2adec99608c6f3592a7dec96f99") true
  eodKeys_holds (fun _ h => by cases h) cwf (fun _ h => by cases h) myRowTie rfl ⟨rfl, rfl⟩ cmain rfl
  (fun f fn hf hfn => by
   obtain rfl : f = 3 := Option.some.inj (cfun.symm.trans hf) |>.symm
   obtain rfl : fn = Tryz.f3 := (Option.some.inj (Tryz.func3.symm.trans hfn)).symm
   exact ⟨clooks, fun j t ht => by
    rw [Tryz.params3] at ht
    have hm : t ∈ [3, 23, 3] := by simpa using Array.mem_of_getElem? ht
    exact (show Tryz.prog.wantsStandIn t = false by simpa using List.all_eq_true.1 cwants t hm)⟩)
  cgoes
#print axioms eodKeys_card
end Go.Proofs.YtpjacfiddgajfaaGreatDoor

