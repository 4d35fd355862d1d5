/- Part 33 of the proof. -/
import Derived.Test.YtmaaepdecdhmnaaGreatDoorB27
import Derived.Test.YtmaaepdecdhmnaaGreatDoorRows
import Derived.SevenTiedAt
import Derived.MakeChecks
import Derived.Lay
import Derived.Test.YtmaaepdecdhmnaaGreatDoorB28
import Derived.Test.YtmaaepdecdhmnaaGreatDoorB29
import Derived.Test.YtmaaepdecdhmnaaGreatDoorB30
import Derived.Test.YtmaaepdecdhmnaaGreatDoorB31
import Derived.Test.YtmaaepdecdhmnaaGreatDoorB32
set_option linter.all false
section
open Go Go.Sim Go.RowKit Go.ChangeShapes Go.WideShapes
namespace Go.Proofs.YtmaaepdecdhmnaaGreatDoor
set_option maxRecDepth 100000
theorem own:ownKnob Tryz.prog.godebug=none:=by kernel_rfl
theorem qxa:(Rows.limitAllowsRow.laid.all fun x=>x.2.handleName?.isNone)=true:=by kernel_rfl
theorem qDA:("internal/strconv.uint64pow10",(.agg (Lib.pow10Tab.map fun z=>.lit (.int .u64 z)):DataW Unit))∈Rows.limitAllowsRow.laid:=zzi _ (zzi _ (zzi _ (zzr ..)))
theorem qDB:("strings.asciiSpace",(.agg (asciiL.map fun z=>.lit (.int .u8 z)):DataW Unit))∈Rows.limitAllowsRow.laid:=zzi _ (zzi _ (zzi _ (zzi _ (zzi _ (zzi _ (zzi _ (zzr ..)))))))
theorem qDC:("strconv.ErrSyntax",(.iface "*errors.errorString" (.ptr (.agg [.lit (.string [105,110,118,97,108,105,100,32,115,121,110,116,97,120])])):DataW Unit))∈Rows.limitAllowsRow.laid:=zzi _ (zzi _ (zzi _ (zzi _ (zzi _ (zzr ..)))))
theorem qDD:("strconv.ErrRange",(.iface "*errors.errorString" (.ptr (.agg [.lit (.string [118,97,108,117,101,32,111,117,116,32,111,102,32,114,97,110,103,101])])):DataW Unit))∈Rows.limitAllowsRow.laid:=zzi _ (zzi _ (zzi _ (zzi _ (zzr ..))))
theorem qAh(os:Os)(args:Array Value):laidMetH Tryz.prog Rows.limitAllowsRow.laid ((World.laidAll Tryz.prog os Rows.limitAllowsRow.laid).forCall (fun _ _=>0) ⟨#[],args,[]⟩).memory:=by
 rw[MakeChecks.laidMetH_plain _ _ _ qxa];exact laidMet_laidAll _ (qLY os) (qLZ os)
theorem qAi(os:Os)(args:Array Value):((World.laidAll Tryz.prog os Rows.limitAllowsRow.laid).forCall (fun _ _=>0) ⟨#[],args,[]⟩).Shaped Tryz.prog:=World.shaped_of_ZipB (qL3 os args) (qL0 os args)
theorem lifted(os:Os)(started:os.Started)(H:Type)(enc:TypeId×Value→H) :
  ReturnsInHanded {} Tryz.checked os 3 .any (fun w args=>(Rows.limitAllowsSpec.pre enc Tryz.prog Tryz.f3 [] false w args∧laidMetH Tryz.prog Rows.limitAllowsRow.laid w)∧sizedMet enc Tryz.prog Tryz.f3 (OpenSpec.ofChange Rows.limitAllowsSpec) false w args)
   (Rows.limitAllowsSpec.post enc Tryz.prog Tryz.f3 false true false false):=by
 refine returnsInHanded_of_change_and (C:=Tryz.checked) (X:=fun w _=>laidMetH Tryz.prog Rows.limitAllowsRow.laid w) (fun _ _ _ hh h=>h.of_heap hh) own started (by kernel_rfl) Tryz.func3
  (ChangeSpec.witness_shaped (enc:=enc) (C:=Tryz.checked) (os:=os) (X:=fun w _=>laidMetH Tryz.prog Rows.limitAllowsRow.laid w) false (World.laidAll Tryz.prog os Rows.limitAllowsRow.laid) #[.agg #[.slice none 0 0,.slice none 0 0,.slice none 0 0,.int .i64 0,.int .i64 0,.int .i64 0,.int .i64 0,.int .i64 0,.int .i64 0,.int .i64 0,.int .i64 0,.int .i64 0,.int .i64 0,.int .i64 0,.int .i64 0,.int .i64 0,.int .i64 0,.slice none 0 0,.slice none 0 0,.slice none 0 0,.slice none 0 0,.slice none 0 0],.agg #[.int .i64 0,.int .i64 0,.int .i64 0,.int .i64 0,.int .i64 0,.int .i64 0,.string ⟨#[]⟩,.string ⟨#[]⟩,.slice none 0 0,.int .u64 0]] 8 (World.laidAll_os _ _ _) (qAi os _) (by kernel_rfl) (by kernel_rfl) (by kernel_rfl) (qAh os _)) ?_
 intro W base args ds gs before hval0 hW _ hsz hX _;have hl:laidMet Tryz.prog Rows.limitAllowsRow.laid W:=(MakeChecks.laidMetH_plain _ _ _ qxa)▸hX
 have hval:∀(j:Nat) t v,Tryz.f3.params[j]? = some t→args[j]? = some v→Value.okWide Tryz.prog W .any base t v:=hval0
 have hW':=hW
 obtain⟨p,q,hA0,hV,rfl,hfz,hnd⟩:=hW;have hA:DataW.TrodAll enc Tryz.prog W 0 (fun _=>true) true Tryz.f3.params.toList args.toList ds p:=hA0
 rw[Tryz.params3]at hA hval;obtain⟨v0,v1,d0,d1,p0,p1,rfl,rfl,rfl,h0,h1⟩:=trodAll_two hA;obtain⟨rfl,rfl⟩:=trodVars_none hV;obtain⟨xs0,x0,a0,b0,c0⟩:=qt0 (n:=12) (hval 0 33 v0 rfl rfl) h0 (qyS hsz 0 rfl rfl) (by kernel_rfl:qh5 Tryz.prog 12 33=some (ABooks.ty)) (by kernel_rfl:kq Tryz.prog 33=some (some 22))
 obtain⟨xs1,x1,a1,b1,c1⟩:=qt0 (n:=12) (hval 1 37 v1 rfl rfl) h1 (qyS hsz 1 rfl rfl) (by kernel_rfl:qh5 Tryz.prog 12 37=some (AEntry.ty)) (by kernel_rfl:kq Tryz.prog 37=some (some 10))
 exact qBY (tb:=4) qwb (by kernel_rfl) (by kernel_rfl) (by kernel_rfl) rfl ⟨rfl,rfl,rfl⟩ hW' (law W v0 v1 x0 x1 xs0 xs1 a0 a1 b0 b1 c0 c1 (gok hl qDA qDB qDC qDD))
end Go.Proofs.YtmaaepdecdhmnaaGreatDoor
end
