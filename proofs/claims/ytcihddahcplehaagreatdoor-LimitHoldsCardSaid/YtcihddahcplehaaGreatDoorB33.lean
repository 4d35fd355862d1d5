/- Part 33 of the proof: CbRow25H. -/
import Derived.Test.YtcihddahcplehaaGreatDoorB27
import Derived.Test.YtcihddahcplehaaGreatDoorRows
import Derived.SevenTiedAt
import Derived.MakeChecks
import Derived.Lay
import Derived.Test.YtcihddahcplehaaGreatDoorB28
import Derived.Test.YtcihddahcplehaaGreatDoorB29
import Derived.Test.YtcihddahcplehaaGreatDoorB30
import Derived.Test.YtcihddahcplehaaGreatDoorB31
import Derived.Test.YtcihddahcplehaaGreatDoorB32
open Go Go.Sim Go.RowKit Go.ChangeShapes Go.WideShapes
namespace Go.Proofs.YtcihddahcplehaaGreatDoor
set_option maxRecDepth 100000
theorem own:ownKnob Tryz.prog.godebug=none:=by kernel_rfl
theorem qt3:(Rows.limitHoldsRow.laid.all fun x=>x.2.handleName?.isNone)=true:=by kernel_rfl
theorem qDe:("internal/strconv.uint64pow10",(.agg (Lib.pow10Tab.map fun z=>.lit (.int .u64 z)):DataW Unit))∈Rows.limitHoldsRow.laid:=zzi _ (zzi _ (zzi _ (zzr ..)))
theorem qF8:("strings.asciiSpace",(.agg (asciiL.map fun z=>.lit (.int .u8 z)):DataW Unit))∈Rows.limitHoldsRow.laid:=zzi _ (zzi _ (zzi _ (zzi _ (zzi _ (zzi _ (zzi _ (zzr ..)))))))
theorem qK8 (os:Os) (args:Array Value):laidMetH Tryz.prog Rows.limitHoldsRow.laid ((World.laidAll Tryz.prog os Rows.limitHoldsRow.laid).forCall (fun _ _=>0) ⟨#[],args,[]⟩).memory:=by
 rw[MakeChecks.laidMetH_plain _ _ _ qt3];exact laidMet_laidAll _ (qHa os) (qDI os)
theorem qHl (os:Os) (args:Array Value):((World.laidAll Tryz.prog os Rows.limitHoldsRow.laid).forCall (fun _ _=>0) ⟨#[],args,[]⟩).Shaped Tryz.prog:=World.shaped_of_ZipB (qJ7 os args) (qHv os args)
theorem lifted (os:Os) (started:os.Started) (H:Type) (enc:TypeId×Value→H) :
  ReturnsInHanded {} Tryz.checked os 3 .any (fun w args=>(Rows.limitHoldsSpec.pre enc Tryz.prog Tryz.f3 [] false w args∧laidMetH Tryz.prog Rows.limitHoldsRow.laid w)∧sizedMet enc Tryz.prog Tryz.f3 (OpenSpec.ofChange Rows.limitHoldsSpec) false w args)
   (Rows.limitHoldsSpec.post enc Tryz.prog Tryz.f3 false true false false):=by
 refine returnsInHanded_of_change_and (C:=Tryz.checked) (X:=fun w _=>laidMetH Tryz.prog Rows.limitHoldsRow.laid w) (fun _ _ _ hh h=>h.of_heap hh) own started (by kernel_rfl) Tryz.func3
  (ChangeSpec.witness_shaped (enc:=enc) (C:=Tryz.checked) (os:=os) (X:=fun w _=>laidMetH Tryz.prog Rows.limitHoldsRow.laid w) false (World.laidAll Tryz.prog os Rows.limitHoldsRow.laid) #[.agg #[.slice none 0 0,.slice none 0 0,.slice none 0 0,.int .i64 0,.int .i64 0,.int .i64 0,.int .i64 0,.int .i64 0,.int .i64 0,.int .i64 0,.int .i64 0,.int .i64 0,.int .i64 0,.int .i64 0,.int .i64 0,.int .i64 0,.int .i64 0,.slice none 0 0,.slice none 0 0,.slice none 0 0,.slice none 0 0,.slice none 0 0],.agg #[.int .i64 0,.int .i64 0,.int .i64 0,.int .i64 0,.int .i64 0,.string ⟨#[]⟩],.agg #[.int .i64 0,.int .i64 0,.int .i64 0]] 8 (World.laidAll_os _ _ _) (qHl os _) (by kernel_rfl) (by kernel_rfl) (by kernel_rfl) (qK8 os _)) ?_
 intro W base args ds gs before hval0 hW _ hsz hX _;have hl:laidMet Tryz.prog Rows.limitHoldsRow.laid W:=(MakeChecks.laidMetH_plain _ _ _ qt3)▸hX
 have hval : ∀(j:Nat) t v,Tryz.f3.params[j]? = some t→args[j]? = some v→Value.okWide Tryz.prog W .any base t v:=hval0
 have hW':=hW
 obtain⟨p,q,hA0,hV,rfl,hfz,hnd⟩:=hW;have hA:DataW.TrodAll enc Tryz.prog W 0 (fun _=>true) true Tryz.f3.params.toList args.toList ds p:=hA0
 rw[Tryz.params3] at hA hval;obtain⟨v0,v1,v2,d0,d1,d2,p0,p1,p2,rfl,rfl,rfl,h0,h1,h2⟩:=trodAll_three hA;obtain⟨rfl,rfl⟩:=trodVars_none hV;obtain⟨xs0,x0,a0,b0,c0⟩:=qst (n:=12) (hval 0 33 v0 rfl rfl) h0 (qoO hsz 0 rfl rfl) (by kernel_rfl:qf3 Tryz.prog 12 33=some (ABooks.ty)) (by kernel_rfl:kq Tryz.prog 33=some (some 22))
 obtain⟨xs1,x1,a1,b1,c1⟩:=qst (n:=12) (hval 1 35 v1 rfl rfl) h1 (qoO hsz 1 rfl rfl) (by kernel_rfl:qf3 Tryz.prog 12 35=some (AHold.ty)) (by kernel_rfl:kq Tryz.prog 35=some (some 6))
 obtain⟨xs2,x2,a2,b2,c2⟩:=qst (n:=12) (hval 2 37 v2 rfl rfl) h2 (qoO hsz 2 rfl rfl) (by kernel_rfl:qf3 Tryz.prog 12 37=some [.i .i64,.i .i64,.i .i64]) (by kernel_rfl:kq Tryz.prog 37=some (some 3))
 exact qLa (tb:=4) qxr (by kernel_rfl) (by kernel_rfl) (by kernel_rfl) rfl ⟨rfl,rfl,rfl⟩ hW' (law W v0 v1 v2 x0 x1 x2 xs0 xs1 xs2 a0 a1 a2 b0 b1 b2 c0 c1 c2 (gok hl qDe qF8))
end Go.Proofs.YtcihddahcplehaaGreatDoor

