/- Part 54 of the proof: CbProof25H. -/
import Derived.Test.YtcihddahcplehaaGreatDoorB40
import Derived.Test.YtcihddahcplehaaGreatDoorB47
import Derived.Test.YtcihddahcplehaaGreatDoorB48
import Derived.Test.YtcihddahcplehaaGreatDoorB49
import Derived.Test.YtcihddahcplehaaGreatDoorB50
import Derived.Test.YtcihddahcplehaaGreatDoorB53
import Derived.Test.YtcihddahcplehaaGreatDoorRows
import Derived.Test.YtcihddahcplehaaGreatDoorCards
import Derived.SevenTiedAt
open Go Go.Sim Go.RowKit Go.ChangeShapes Go.WideShapes
namespace Go.Proofs.YtcihddahcplehaaGreatDoor
set_option maxRecDepth 100000
theorem limitHolds_card:Rows.LimitHoldsCardSaid :=
 Claim7.holds_tied_plain_at .later [] [.data,.data,.data,.data,.sentinel,.sentinel,.listed,.data] true (true, "4c8cf9f661e575d01d405b999e97c95a1db5ba8d2c8c35c8517c78a32c3b987f") true
  qzw (fun _ h=>by cases h) cwf (fun _ h=>by cases h) qAr rfl ⟨rfl,rfl⟩ qCd rfl
  (fun f fn hf hfn=>by
   obtain rfl:f=3:=Option.some.inj (cfun.symm.trans hf) |>.symm;obtain rfl:fn=Tryz.f3:=(Option.some.inj (Tryz.func3.symm.trans hfn)).symm;exact⟨qBo,fun j t ht=>by
    rw[Tryz.params3] at ht;have hm:t∈[33,35,37]:=by simpa using Array.mem_of_getElem? ht
    exact (show Tryz.prog.wantsStandIn t=false by simpa using List.all_eq_true.1 qzJ t hm)⟩)
  qDt
#print axioms limitHolds_card
end Go.Proofs.YtcihddahcplehaaGreatDoor

