/- Part 52 of the proof: CbProof28E. -/
import Derived.Test.YtahfohlafjiajaaGreatDoorEB39
import Derived.Test.YtahfohlafjiajaaGreatDoorEB46
import Derived.Test.YtahfohlafjiajaaGreatDoorEB47
import Derived.Test.YtahfohlafjiajaaGreatDoorEB48
import Derived.Test.YtahfohlafjiajaaGreatDoorEB51
import Derived.Test.YtahfohlafjiajaaGreatDoorRows
import Derived.Test.YtahfohlafjiajaaGreatDoorCards
import Derived.SevenTiedAt
open Go Go.Sim Go.RowKit Go.ChangeShapes Go.WideShapes
namespace Go.Proofs.YtahfohlafjiajaaGreatDoor
set_option maxRecDepth 100000
theorem feeEntries_card:Rows.FeeEntriesCardSaid :=
 Claim7.holds_tied_plain_at .later [] [.data,.data,.data,.data,.sentinel,.sentinel,.listed,.data] true (true, "a103b0d8de94d42e788c28a249f6b6776fb42f669c3096ea2c81aabe96aa899b") true
  qzM (fun _ h=>by cases h) cwf (fun _ h=>by cases h) qC5 rfl ⟨rfl,rfl⟩ qzc rfl
  (fun f fn hf hfn=>by
   obtain rfl:f=4:=Option.some.inj (cfun.symm.trans hf) |>.symm;obtain rfl:fn=Tryz.f4:=(Option.some.inj (Tryz.func4.symm.trans hfn)).symm;exact⟨qy9,fun j t ht=>by
    rw[Tryz.params4] at ht;have hm:t∈[33,35,38]:=by simpa using Array.mem_of_getElem? ht
    exact (show Tryz.prog.wantsStandIn t=false by simpa using List.all_eq_true.1 qzk t hm)⟩)
  qyW
#print axioms feeEntries_card
end Go.Proofs.YtahfohlafjiajaaGreatDoor

