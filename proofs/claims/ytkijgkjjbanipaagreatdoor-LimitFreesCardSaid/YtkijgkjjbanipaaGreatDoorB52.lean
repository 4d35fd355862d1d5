/- Part 52 of the proof: CbProof25F. -/
import Derived.Test.YtkijgkjjbanipaaGreatDoorB37
import Derived.Test.YtkijgkjjbanipaaGreatDoorB44
import Derived.Test.YtkijgkjjbanipaaGreatDoorB45
import Derived.Test.YtkijgkjjbanipaaGreatDoorB46
import Derived.Test.YtkijgkjjbanipaaGreatDoorB47
import Derived.Test.YtkijgkjjbanipaaGreatDoorB48
import Derived.Test.YtkijgkjjbanipaaGreatDoorB51
import Derived.Test.YtkijgkjjbanipaaGreatDoorRows
import Derived.Test.YtkijgkjjbanipaaGreatDoorCards
import Derived.SevenTiedAt
open Go Go.Sim Go.RowKit Go.ChangeShapes Go.WideShapes
namespace Go.Proofs.YtkijgkjjbanipaaGreatDoor
set_option maxRecDepth 100000
theorem limitFrees_card:Rows.LimitFreesCardSaid :=
 Claim7.holds_tied_plain_at .later [] [.data,.data,.data,.data,.sentinel,.sentinel,.listed,.data] true (true, "c62aa00ada3ed0925493202bea42f1f82663839e79e165ad5a9d72d28d55857f") true
  qGe (fun _ h=>by cases h) cwf (fun _ h=>by cases h) qzq rfl ⟨rfl,rfl⟩ qFA rfl
  (fun f fn hf hfn=>by
   obtain rfl:f=6:=Option.some.inj (cfun.symm.trans hf) |>.symm;obtain rfl:fn=Tryz.f6:=(Option.some.inj (Tryz.func6.symm.trans hfn)).symm;exact⟨qE5,fun j t ht=>by
    rw[Tryz.params6] at ht;have hm:t∈[33,51]:=by simpa using Array.mem_of_getElem? ht
    exact (show Tryz.prog.wantsStandIn t=false by simpa using List.all_eq_true.1 qyt t hm)⟩)
  qz5
#print axioms limitFrees_card
end Go.Proofs.YtkijgkjjbanipaaGreatDoor

