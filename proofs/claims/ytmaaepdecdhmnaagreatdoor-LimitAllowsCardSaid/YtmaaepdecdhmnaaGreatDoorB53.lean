/- Part 53 of the proof. -/
import Derived.Test.YtmaaepdecdhmnaaGreatDoorB40
import Derived.Test.YtmaaepdecdhmnaaGreatDoorB47
import Derived.Test.YtmaaepdecdhmnaaGreatDoorB48
import Derived.Test.YtmaaepdecdhmnaaGreatDoorB49
import Derived.Test.YtmaaepdecdhmnaaGreatDoorB52
import Derived.Test.YtmaaepdecdhmnaaGreatDoorRows
import Derived.Test.YtmaaepdecdhmnaaGreatDoorCards
import Derived.SevenTiedAt
set_option linter.all false
section
open Go Go.Sim Go.RowKit Go.ChangeShapes Go.WideShapes
namespace Go.Proofs.YtmaaepdecdhmnaaGreatDoor
set_option maxRecDepth 100000
theorem limitAllows_card:Rows.LimitAllowsCardSaid :=
 Claim7.holds_tied_plain_at .later [] [.data,.data,.data,.data,.sentinel,.sentinel,.listed,.data] true (true, "0bf118e6010913dd751bc11b45761ac2f5cbcf0bc2e2e1e064526ed66461a2a6") true
  qB6 (fun _ h=>by cases h) cwf (fun _ h=>by cases h) qDX rfl ⟨rfl,rfl⟩ qzW rfl
  (fun f fn hf hfn=>by
   obtain rfl:f=3:=Option.some.inj (cfun.symm.trans hf) |>.symm;obtain rfl:fn=Tryz.f3:=(Option.some.inj (Tryz.func3.symm.trans hfn)).symm;exact⟨qzP,fun j t ht=>by
    rw[Tryz.params3]at ht;have hm:t∈[33,37]:=by simpa using Array.mem_of_getElem? ht
    exact (show Tryz.prog.wantsStandIn t=false by simpa using List.all_eq_true.1 qz5 t hm)⟩)
  qzG
#print axioms limitAllows_card
end Go.Proofs.YtmaaepdecdhmnaaGreatDoor
end
