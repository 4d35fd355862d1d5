/- Part 54 of the proof: CbProof52Y. -/
import Derived.Test.YtpjacfiddgajfaaGreatDoorYB39
import Derived.Test.YtpjacfiddgajfaaGreatDoorYB46
import Derived.Test.YtpjacfiddgajfaaGreatDoorYB47
import Derived.Test.YtpjacfiddgajfaaGreatDoorYB48
import Derived.Test.YtpjacfiddgajfaaGreatDoorYB49
import Derived.Test.YtpjacfiddgajfaaGreatDoorYB50
import Derived.Test.YtpjacfiddgajfaaGreatDoorYB53
import Derived.Test.YtpjacfiddgajfaaGreatDoorRows
import Derived.Test.YtpjacfiddgajfaaGreatDoorCards
import Derived.SevenTiedAt
open Go Go.Sim Go.RowKit Go.ChangeShapes Go.WideShapes
namespace Go.Proofs.YtpjacfiddgajfaaGreatDoor
set_option maxRecDepth 100000
theorem eodBefore_card : Rows.EodBeforeCardSaid :=
 Claim7.holds_tied_plain_at .later [] [.data, .data, .data, .data, .listed, .sentinel, .sentinel, .data, .data] true (true, "a2729952953464776c5a6283b4def01d349ad2adec99608c6f3592a7dec96f99") true
  eodBefore_holds (fun _ h => by cases h) cwf (fun _ h => by cases h) myRowTie rfl ⟨rfl, rfl⟩ cmain rfl
  (fun f fn hf hfn => by
   obtain rfl : f = 4 := Option.some.inj (cfun.symm.trans hf) |>.symm
   obtain rfl : fn = Tryz.f4 := (Option.some.inj (Tryz.func4.symm.trans hfn)).symm
   exact ⟨clooks, fun j t ht => by
    rw [Tryz.params4] at ht
    have hm : t ∈ [56, 23] := by simpa using Array.mem_of_getElem? ht
    exact (show Tryz.prog.wantsStandIn t = false by simpa using List.all_eq_true.1 cwants t hm)⟩)
  cgoes
#print axioms eodBefore_card
end Go.Proofs.YtpjacfiddgajfaaGreatDoor

