/- Part 40 of the proof: CbProof29E. -/
import Derived.Test.YtakfofnggifenaaGreatDoorB27
import Derived.Test.YtakfofnggifenaaGreatDoorB34
import Derived.Test.YtakfofnggifenaaGreatDoorB35
import Derived.Test.YtakfofnggifenaaGreatDoorB36
import Derived.Test.YtakfofnggifenaaGreatDoorB37
import Derived.Test.YtakfofnggifenaaGreatDoorB38
import Derived.Test.YtakfofnggifenaaGreatDoorB39
import Derived.Test.YtakfofnggifenaaGreatDoorRows
import Derived.Test.YtakfofnggifenaaGreatDoorCards
import Derived.SevenTiedAt
open Go Go.Sim Go.RowKit Go.ChangeShapes Go.WideShapes
namespace Go.Proofs.YtakfofnggifenaaGreatDoor
set_option maxRecDepth 100000
theorem settleEnds_card : Rows.SettleEndsCardSaid :=
 Claim7.holds_tied_plain_at .later [] [.data, .data, .data, .data, .sentinel, .sentinel, .listed, .data] true (true, "2f4651aaba0be3d75943fd169c316c68e2c04a88d058065fc6fd52344ff279ef") true
  settleEnds_holds (fun _ h => by cases h) cwf (fun _ h => by cases h) myRowTie rfl ⟨rfl, rfl⟩ cmain rfl
  (fun f fn hf hfn => by
   obtain rfl : f = 3 := Option.some.inj (cfun.symm.trans hf) |>.symm
   obtain rfl : fn = Tryz.f3 := (Option.some.inj (Tryz.func3.symm.trans hfn)).symm
   exact ⟨clooks, fun j t ht => by
    rw [Tryz.params3] at ht
    have hm : t ∈ [3, 23, 24] := by simpa using Array.mem_of_getElem? ht
    exact (show Tryz.prog.wantsStandIn t = false by simpa using List.all_eq_true.1 cwants t hm)⟩)
  cgoes
#print axioms settleEnds_card
end Go.Proofs.YtakfofnggifenaaGreatDoor

