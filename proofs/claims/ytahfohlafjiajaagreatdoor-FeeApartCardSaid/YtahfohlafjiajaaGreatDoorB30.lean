/- Part 30 of the proof: CbRow28A. -/
import Derived.Test.YtahfohlafjiajaaGreatDoorB24
import Derived.Test.YtahfohlafjiajaaGreatDoorRows
import Derived.SevenTiedAt
import Derived.MakeChecks
import Derived.Lay
import Derived.Test.YtahfohlafjiajaaGreatDoorB25
import Derived.Test.YtahfohlafjiajaaGreatDoorB26
import Derived.Test.YtahfohlafjiajaaGreatDoorB27
import Derived.Test.YtahfohlafjiajaaGreatDoorB28
import Derived.Test.YtahfohlafjiajaaGreatDoorB29
open Go Go.Sim Go.RowKit Go.ChangeShapes Go.WideShapes
namespace Go.Proofs.YtahfohlafjiajaaGreatDoor
set_option maxRecDepth 100000
theorem own:ownKnob Tryz.prog.godebug=none:=by kernel_rfl
theorem quy:(Rows.feeApartRow.laid.all fun x=>x.2.handleName?.isNone)=true:=by kernel_rfl
theorem qvL:("internal/strconv.uint64pow10",(.agg (Lib.pow10Tab.map fun z=>.lit (.int .u64 z)):DataW Unit))∈Rows.feeApartRow.laid:=zzi _ (zzi _ (zzi _ (zzr ..)))
theorem qym:("strings.asciiSpace",(.agg (asciiL.map fun z=>.lit (.int .u8 z)):DataW Unit))∈Rows.feeApartRow.laid:=zzi _ (zzi _ (zzi _ (zzi _ (zzi _ (zzi _ (zzi _ (zzr ..)))))))
theorem qyv:("strconv.ErrSyntax",(.iface "*errors.errorString" (.ptr (.agg [.lit (.string [105,110,118,97,108,105,100,32,115,121,110,116,97,120])])):DataW Unit))∈Rows.feeApartRow.laid:=zzi _ (zzi _ (zzi _ (zzi _ (zzi _ (zzr ..)))))
theorem qxy:("strconv.ErrRange",(.iface "*errors.errorString" (.ptr (.agg [.lit (.string [118,97,108,117,101,32,111,117,116,32,111,102,32,114,97,110,103,101])])):DataW Unit))∈Rows.feeApartRow.laid:=zzi _ (zzi _ (zzi _ (zzi _ (zzr ..))))
theorem qzv (os:Os) (args:Array Value):laidMetH Tryz.prog Rows.feeApartRow.laid ((World.laidAll Tryz.prog os Rows.feeApartRow.laid).forCall (fun _ _=>0) ⟨#[],args,[]⟩).memory:=by
 rw[MakeChecks.laidMetH_plain _ _ _ quy];exact laidMet_laidAll _ (qy7 os) (qwl os)
theorem qCp (os:Os) (args:Array Value):((World.laidAll Tryz.prog os Rows.feeApartRow.laid).forCall (fun _ _=>0) ⟨#[],args,[]⟩).Shaped Tryz.prog:=World.shaped_of_ZipB (qBp os args) (qAN os args)
theorem lifted (os:Os) (started:os.Started) (H:Type) (enc:TypeId×Value→H) :
  ReturnsInHanded {} Tryz.checked os 5 .any (fun w args=>(Rows.feeApartSpec.pre enc Tryz.prog Tryz.f5 [] false w args∧laidMetH Tryz.prog Rows.feeApartRow.laid w)∧sizedMet enc Tryz.prog Tryz.f5 (OpenSpec.ofChange Rows.feeApartSpec) false w args)
   (Rows.feeApartSpec.post enc Tryz.prog Tryz.f5 false true false false):=by
 refine returnsInHanded_of_change_and (C:=Tryz.checked) (X:=fun w _=>laidMetH Tryz.prog Rows.feeApartRow.laid w) (fun _ _ _ hh h=>h.of_heap hh) own started (by kernel_rfl) Tryz.func5
  (ChangeSpec.witness_shaped (enc:=enc) (C:=Tryz.checked) (os:=os) (X:=fun w _=>laidMetH Tryz.prog Rows.feeApartRow.laid w) false (World.laidAll Tryz.prog os Rows.feeApartRow.laid) #[.agg #[.slice none 0 0,.slice none 0 0,.slice none 0 0,.int .i64 0,.int .i64 0,.int .i64 0,.int .i64 0,.int .i64 0,.int .i64 0,.int .i64 0,.int .i64 0,.int .i64 0,.int .i64 0,.int .i64 0,.int .i64 0,.int .i64 0,.int .i64 0,.slice none 0 0,.slice none 0 0,.slice none 0 0,.slice none 0 0,.slice none 0 0],.agg #[.int .i64 0,.int .i64 0,.int .i64 0,.int .i64 0]] 8 (World.laidAll_os _ _ _) (qCp os _) (by kernel_rfl) (by kernel_rfl) (by kernel_rfl) (qzv os _)) ?_
 intro W base args ds gs before hval0 hW _ hsz hX _;have hl:laidMet Tryz.prog Rows.feeApartRow.laid W:=(MakeChecks.laidMetH_plain _ _ _ quy)▸hX
 have hval : ∀(j:Nat) t v,Tryz.f5.params[j]? = some t→args[j]? = some v→Value.okWide Tryz.prog W .any base t v:=hval0
 have hW':=hW
 obtain⟨p,q,hA0,hV,rfl,hfz,hnd⟩:=hW;have hA:DataW.TrodAll enc Tryz.prog W 0 (fun _=>true) true Tryz.f5.params.toList args.toList ds p:=hA0
 rw[Tryz.params5] at hA hval;obtain⟨v0,v1,d0,d1,p0,p1,rfl,rfl,rfl,h0,h1⟩:=trodAll_two hA;obtain⟨rfl,rfl⟩:=trodVars_none hV;obtain⟨xs0,x0,a0,b0,c0⟩:=qr8 (n:=12) (hval 0 33 v0 rfl rfl) h0 (qsz hsz 0 rfl rfl) (by kernel_rfl:qgU Tryz.prog 12 33=some (ABooks.ty)) (by kernel_rfl:kq Tryz.prog 33=some (some 22))
 obtain⟨xs1,x1,a1,b1,c1⟩:=qr8 (n:=12) (hval 1 35 v1 rfl rfl) h1 (qsz hsz 1 rfl rfl) (by kernel_rfl:qgU Tryz.prog 12 35=some [.i .i64,.i .i64,.i .i64,.i .i64]) (by kernel_rfl:kq Tryz.prog 35=some (some 4))
 exact qxQ (tb:=4) qsb (by kernel_rfl) (by kernel_rfl) (by kernel_rfl) rfl ⟨rfl,rfl,rfl⟩ hW' (law W v0 v1 x0 x1 xs0 xs1 a0 a1 b0 b1 c0 c1 (gok hl qvL qym qyv qxy))
end Go.Proofs.YtahfohlafjiajaaGreatDoor

