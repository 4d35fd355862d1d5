/- Part 52 of the proof: CbProof28A. -/
import Derived.Test.YtahfohlafjiajaaGreatDoorB37
import Derived.Test.YtahfohlafjiajaaGreatDoorB44
import Derived.Test.YtahfohlafjiajaaGreatDoorB45
import Derived.Test.YtahfohlafjiajaaGreatDoorB46
import Derived.Test.YtahfohlafjiajaaGreatDoorB47
import Derived.Test.YtahfohlafjiajaaGreatDoorB48
import Derived.Test.YtahfohlafjiajaaGreatDoorB51
import Derived.Test.YtahfohlafjiajaaGreatDoorRows
import Derived.Test.YtahfohlafjiajaaGreatDoorCards
import Derived.SevenTiedAt
open Go Go.Sim Go.RowKit Go.ChangeShapes Go.WideShapes
namespace Go.Proofs.YtahfohlafjiajaaGreatDoor
set_option maxRecDepth 100000
theorem feeApart_card:Rows.FeeApartCardSaid :=
 Claim7.holds_tied_plain_at .later [] [.data,.data,.data,.data,.sentinel,.sentinel,.listed,.data] true (true, "a103b0d8de94d42e788c28a249f6b6776fb42f669c3096ea2c81aabe96aa899b") true
  qCn (fun _ h=>by cases h) cwf (fun _ h=>by cases h) qvY rfl ⟨rfl,rfl⟩ qxa rfl
  (fun f fn hf hfn=>by
   obtain rfl:f=5:=Option.some.inj (cfun.symm.trans hf) |>.symm;obtain rfl:fn=Tryz.f5:=(Option.some.inj (Tryz.func5.symm.trans hfn)).symm;exact⟨qEz,fun j t ht=>by
    rw[Tryz.params5] at ht;have hm:t∈[33,35]:=by simpa using Array.mem_of_getElem? ht
    exact (show Tryz.prog.wantsStandIn t=false by simpa using List.all_eq_true.1 qBB t hm)⟩)
  qwa
#print axioms feeApart_card
end Go.Proofs.YtahfohlafjiajaaGreatDoor

