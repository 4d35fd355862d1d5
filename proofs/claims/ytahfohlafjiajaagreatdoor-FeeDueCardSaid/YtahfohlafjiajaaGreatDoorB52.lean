/- Part 52 of the proof: CbProof28D. -/
import Derived.Test.YtahfohlafjiajaaGreatDoorB39
import Derived.Test.YtahfohlafjiajaaGreatDoorB46
import Derived.Test.YtahfohlafjiajaaGreatDoorB47
import Derived.Test.YtahfohlafjiajaaGreatDoorB48
import Derived.Test.YtahfohlafjiajaaGreatDoorB51
import Derived.Test.YtahfohlafjiajaaGreatDoorRows
import Derived.Test.YtahfohlafjiajaaGreatDoorCards
import Derived.SevenTiedAt
open Go Go.Sim Go.RowKit Go.ChangeShapes Go.WideShapes
namespace Go.Proofs.YtahfohlafjiajaaGreatDoor
set_option maxRecDepth 100000
theorem feeDue_card:Rows.FeeDueCardSaid :=
 Claim7.holds_tied_plain_at .later [] [.data,.data,.data,.data,.sentinel,.sentinel,.listed,.data] true (true, "a103b0d8de94d42e788c28a249f6b6776fb42f669c3096ea2c81aabe96aa899b") true
  qzn (fun _ h=>by cases h) cwf (fun _ h=>by cases h) qCw rfl ⟨rfl,rfl⟩ qyO rfl
  (fun f fn hf hfn=>by
   obtain rfl:f=3:=Option.some.inj (cfun.symm.trans hf) |>.symm;obtain rfl:fn=Tryz.f3:=(Option.some.inj (Tryz.func3.symm.trans hfn)).symm;exact⟨qyL,fun j t ht=>by
    rw[Tryz.params3] at ht;have hm:t∈[33,35]:=by simpa using Array.mem_of_getElem? ht
    exact (show Tryz.prog.wantsStandIn t=false by simpa using List.all_eq_true.1 qyW t hm)⟩)
  qyy
#print axioms feeDue_card
end Go.Proofs.YtahfohlafjiajaaGreatDoor

