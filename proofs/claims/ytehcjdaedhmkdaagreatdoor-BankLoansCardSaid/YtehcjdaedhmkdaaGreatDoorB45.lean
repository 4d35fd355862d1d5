/- Part 45 of the proof: CbProof51L. -/
import Derived.Test.YtehcjdaedhmkdaaGreatDoorB30
import Derived.Test.YtehcjdaedhmkdaaGreatDoorB37
import Derived.Test.YtehcjdaedhmkdaaGreatDoorB38
import Derived.Test.YtehcjdaedhmkdaaGreatDoorB39
import Derived.Test.YtehcjdaedhmkdaaGreatDoorB40
import Derived.Test.YtehcjdaedhmkdaaGreatDoorB41
import Derived.Test.YtehcjdaedhmkdaaGreatDoorB44
import Derived.Test.YtehcjdaedhmkdaaGreatDoorRows
import Derived.Test.YtehcjdaedhmkdaaGreatDoorCards
import Derived.SevenTiedAt
open Go Go.Sim Go.RowKit Go.ChangeShapes Go.WideShapes
namespace Go.Proofs.YtehcjdaedhmkdaaGreatDoor
set_option maxRecDepth 100000
theorem bankLoans_card : Rows.BankLoansCardSaid :=
 Claim7.holds_tied_plain_at .later [] [.data, .listed, .sentinel, .sentinel, .data, .data, .data, .data] true (true, "071ecefb41a628626b07548329ea6d75366359bcbf8f8cf5e667c0671e9bd047") true
  bankLoans_holds (fun _ h => by cases h) cwf (fun _ h => by cases h) myRowTie rfl ⟨rfl, rfl⟩ cmain rfl
  (fun f fn hf hfn => by
   obtain rfl : f = 4 := Option.some.inj (cfun.symm.trans hf) |>.symm
   obtain rfl : fn = Tryz.f4 := (Option.some.inj (Tryz.func4.symm.trans hfn)).symm
   exact ⟨clooks, fun j t ht => by
    rw [Tryz.params4] at ht
    have hm : t ∈ [51, 3, 57] := by simpa using Array.mem_of_getElem? ht
    exact (show Tryz.prog.wantsStandIn t = false by simpa using List.all_eq_true.1 cwants t hm)⟩)
  cgoes
#print axioms bankLoans_card
end Go.Proofs.YtehcjdaedhmkdaaGreatDoor

