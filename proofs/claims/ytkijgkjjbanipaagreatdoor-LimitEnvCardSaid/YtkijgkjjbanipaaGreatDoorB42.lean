/- Part 42 of the proof: CbProof25E. -/
import Derived.Test.YtkijgkjjbanipaaGreatDoorB29
import Derived.Test.YtkijgkjjbanipaaGreatDoorB36
import Derived.Test.YtkijgkjjbanipaaGreatDoorB37
import Derived.Test.YtkijgkjjbanipaaGreatDoorB38
import Derived.Test.YtkijgkjjbanipaaGreatDoorB39
import Derived.Test.YtkijgkjjbanipaaGreatDoorB40
import Derived.Test.YtkijgkjjbanipaaGreatDoorB41
import Derived.Test.YtkijgkjjbanipaaGreatDoorRows
import Derived.Test.YtkijgkjjbanipaaGreatDoorCards
import Derived.SevenTiedAt
set_option linter.all false
open Go Go.Sim Go.RowKit Go.ChangeShapes Go.WideShapes
namespace Go.Proofs.YtkijgkjjbanipaaGreatDoor
set_option maxRecDepth 100000
theorem limitEnv_card : Rows.LimitEnvCardSaid :=
 Claim7.holds_tied_plain_at .later [] [.data, .data, .data, .data, .sentinel, .sentinel, .listed, .data] true (true, "c62aa00ada3ed0925493202bea42f1f82663839e79e165ad5a9d72d28d55857f") true
  limitEnv_holds (fun _ h => by cases h) cwf (fun _ h => by cases h) myRowTie rfl ⟨rfl, rfl⟩ cmain rfl
  (fun f fn hf hfn => by
   obtain rfl : f = 3 := Option.some.inj (cfun.symm.trans hf) |>.symm
   obtain rfl : fn = Tryz.f3 := (Option.some.inj (Tryz.func3.symm.trans hfn)).symm
   exact ⟨clooks, fun j t ht => by
    rw [Tryz.params3] at ht
    have hm : t ∈ [33, 35] := by simpa using Array.mem_of_getElem? ht
    exact (show Tryz.prog.wantsStandIn t = false by simpa using List.all_eq_true.1 cwants t hm)⟩)
  cgoes
#print axioms limitEnv_card
end Go.Proofs.YtkijgkjjbanipaaGreatDoor

