/- Part 30 of the proof: CbRow25F. -/
import Derived.Test.YtkijgkjjbanipaaGreatDoorB24
import Derived.Test.YtkijgkjjbanipaaGreatDoorRows
import Derived.SevenTiedAt
import Derived.MakeChecks
import Derived.Lay
import Derived.Test.YtkijgkjjbanipaaGreatDoorB25
import Derived.Test.YtkijgkjjbanipaaGreatDoorB26
import Derived.Test.YtkijgkjjbanipaaGreatDoorB27
import Derived.Test.YtkijgkjjbanipaaGreatDoorB28
import Derived.Test.YtkijgkjjbanipaaGreatDoorB29
open Go Go.Sim Go.RowKit Go.ChangeShapes Go.WideShapes
namespace Go.Proofs.YtkijgkjjbanipaaGreatDoor
set_option maxRecDepth 100000
theorem own:ownKnob Tryz.prog.godebug=none:=by kernel_rfl
theorem quN:(Rows.limitFreesRow.laid.all fun x=>x.2.handleName?.isNone)=true:=by kernel_rfl
theorem qBS:("internal/strconv.uint64pow10",(.agg (Lib.pow10Tab.map fun z=>.lit (.int .u64 z)):DataW Unit))∈Rows.limitFreesRow.laid:=zzi _ (zzi _ (zzi _ (zzr ..)))
theorem qxn:("strings.asciiSpace",(.agg (asciiL.map fun z=>.lit (.int .u8 z)):DataW Unit))∈Rows.limitFreesRow.laid:=zzi _ (zzi _ (zzi _ (zzi _ (zzi _ (zzi _ (zzi _ (zzr ..)))))))
theorem qCw:("strconv.ErrSyntax",(.iface "*errors.errorString" (.ptr (.agg [.lit (.string [105,110,118,97,108,105,100,32,115,121,110,116,97,120])])):DataW Unit))∈Rows.limitFreesRow.laid:=zzi _ (zzi _ (zzi _ (zzi _ (zzi _ (zzr ..)))))
theorem qym:("strconv.ErrRange",(.iface "*errors.errorString" (.ptr (.agg [.lit (.string [118,97,108,117,101,32,111,117,116,32,111,102,32,114,97,110,103,101])])):DataW Unit))∈Rows.limitFreesRow.laid:=zzi _ (zzi _ (zzi _ (zzi _ (zzr ..))))
theorem qFK (os:Os) (args:Array Value):laidMetH Tryz.prog Rows.limitFreesRow.laid ((World.laidAll Tryz.prog os Rows.limitFreesRow.laid).forCall (fun _ _=>0) ⟨#[],args,[]⟩).memory:=by
 rw[MakeChecks.laidMetH_plain _ _ _ quN];exact laidMet_laidAll _ (qA5 os) (qC0 os)
theorem qC3 (os:Os) (args:Array Value):((World.laidAll Tryz.prog os Rows.limitFreesRow.laid).forCall (fun _ _=>0) ⟨#[],args,[]⟩).Shaped Tryz.prog:=World.shaped_of_ZipB (qwa os args) (qwi os args)
theorem lifted (os:Os) (started:os.Started) (H:Type) (enc:TypeId×Value→H) :
  ReturnsInHanded {} Tryz.checked os 6 .any (fun w args=>(Rows.limitFreesSpec.pre enc Tryz.prog Tryz.f6 [] false w args∧laidMetH Tryz.prog Rows.limitFreesRow.laid w)∧sizedMet enc Tryz.prog Tryz.f6 (OpenSpec.ofChange Rows.limitFreesSpec) false w args)
   (Rows.limitFreesSpec.post enc Tryz.prog Tryz.f6 false true false false):=by
 refine returnsInHanded_of_change_and (C:=Tryz.checked) (X:=fun w _=>laidMetH Tryz.prog Rows.limitFreesRow.laid w) (fun _ _ _ hh h=>h.of_heap hh) own started (by kernel_rfl) Tryz.func6
  (ChangeSpec.witness_shaped (enc:=enc) (C:=Tryz.checked) (os:=os) (X:=fun w _=>laidMetH Tryz.prog Rows.limitFreesRow.laid w) false (World.laidAll Tryz.prog os Rows.limitFreesRow.laid) #[.agg #[.slice none 0 0,.slice none 0 0,.slice none 0 0,.int .i64 0,.int .i64 0,.int .i64 0,.int .i64 0,.int .i64 0,.int .i64 0,.int .i64 0,.int .i64 0,.int .i64 0,.int .i64 0,.int .i64 0,.int .i64 0,.int .i64 0,.int .i64 0,.slice none 0 0,.slice none 0 0,.slice none 0 0,.slice none 0 0,.slice none 0 0],.agg #[.int .i64 0,.int .i64 0,.int .i64 0,.int .i64 0,.int .i64 0,.int .i64 0,.string ⟨#[]⟩,.string ⟨#[]⟩,.slice none 0 0,.int .u64 0]] 8 (World.laidAll_os _ _ _) (qC3 os _) (by kernel_rfl) (by kernel_rfl) (by kernel_rfl) (qFK os _)) ?_
 intro W base args ds gs before hval0 hW _ hsz hX _;have hl:laidMet Tryz.prog Rows.limitFreesRow.laid W:=(MakeChecks.laidMetH_plain _ _ _ quN)▸hX
 have hval : ∀(j:Nat) t v,Tryz.f6.params[j]? = some t→args[j]? = some v→Value.okWide Tryz.prog W .any base t v:=hval0
 have hW':=hW
 obtain⟨p,q,hA0,hV,rfl,hfz,hnd⟩:=hW;have hA:DataW.TrodAll enc Tryz.prog W 0 (fun _=>true) true Tryz.f6.params.toList args.toList ds p:=hA0
 rw[Tryz.params6] at hA hval;obtain⟨v0,v1,d0,d1,p0,p1,rfl,rfl,rfl,h0,h1⟩:=trodAll_two hA;obtain⟨rfl,rfl⟩:=trodVars_none hV;obtain⟨xs0,x0,a0,b0,c0⟩:=qrU (n:=12) (hval 0 33 v0 rfl rfl) h0 (qtX hsz 0 rfl rfl) (by kernel_rfl:qgG Tryz.prog 12 33=some (ABooks.ty)) (by kernel_rfl:kq Tryz.prog 33=some (some 22))
 obtain⟨xs1,x1,a1,b1,c1⟩:=qrU (n:=12) (hval 1 51 v1 rfl rfl) h1 (qtX hsz 1 rfl rfl) (by kernel_rfl:qgG Tryz.prog 12 51=some (AEntry.ty)) (by kernel_rfl:kq Tryz.prog 51=some (some 10))
 exact qAF (tb:=4) qu2 (by kernel_rfl) (by kernel_rfl) (by kernel_rfl) rfl ⟨rfl,rfl,rfl⟩ hW' (law W v0 v1 x0 x1 xs0 xs1 a0 a1 b0 b1 c0 c1 (gok hl qBS qxn qCw qym))
end Go.Proofs.YtkijgkjjbanipaaGreatDoor

