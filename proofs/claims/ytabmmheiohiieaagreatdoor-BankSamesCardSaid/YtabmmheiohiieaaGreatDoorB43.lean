/- Part 43 of the proof: CbProof51s. -/
import Derived.Test.YtabmmheiohiieaaGreatDoorB30
import Derived.Test.YtabmmheiohiieaaGreatDoorB37
import Derived.Test.YtabmmheiohiieaaGreatDoorB38
import Derived.Test.YtabmmheiohiieaaGreatDoorB39
import Derived.Test.YtabmmheiohiieaaGreatDoorB40
import Derived.Test.YtabmmheiohiieaaGreatDoorB41
import Derived.Test.YtabmmheiohiieaaGreatDoorB42
import Derived.Test.YtabmmheiohiieaaGreatDoorRows
import Derived.Test.YtabmmheiohiieaaGreatDoorCards
import Derived.SevenTiedAt
open Go Go.Sim Go.RowKit Go.ChangeShapes Go.WideShapes
namespace Go.Proofs.YtabmmheiohiieaaGreatDoor
set_option maxRecDepth 100000
theorem bankSames_card : Rows.BankSamesCardSaid :=
 Claim7.holds_tied_plain_at .later [] [.data, .listed, .sentinel, .sentinel, .data, .data, .data, .data] true (true, "c983db97be291ef6630024ece6fdadb2382d050bf9880f47ce8a06ee3c1a70a2") true
  bankSames_holds (fun _ h => by cases h) cwf (fun _ h => by cases h) myRowTie rfl ⟨rfl, rfl⟩ cmain rfl
  (fun f fn hf hfn => by
   obtain rfl : f = 3 := Option.some.inj (cfun.symm.trans hf) |>.symm
   obtain rfl : fn = Tryz.f3 := (Option.some.inj (Tryz.func3.symm.trans hfn)).symm
   exact ⟨clooks, fun j t ht => by
    rw [Tryz.params3] at ht
    have hm : t ∈ [51, 51] := by simpa using Array.mem_of_getElem? ht
    exact (show Tryz.prog.wantsStandIn t = false by simpa using List.all_eq_true.1 cwants t hm)⟩)
  cgoes
#print axioms bankSames_card
end Go.Proofs.YtabmmheiohiieaaGreatDoor

