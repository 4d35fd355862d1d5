/- Part 30 of the proof. -/
import Derived.Test.YtmaaepdecdhmnaaGreatDoorHB27
import Derived.SevenTiedAt
import Derived.Test.YtmaaepdecdhmnaaGreatDoorHB28
import Derived.Test.YtmaaepdecdhmnaaGreatDoorHB29
set_option linter.all false
section
open Go
namespace Go.Proofs.YtmaaepdecdhmnaaGreatDoor
set_option maxRecDepth 100000
def qSR(os:Os):(World.holding Tryz.prog os ⟨#[],#[],[]⟩).layIfaces Tryz.prog Rows.limitGuardsRow.laid (World.laidAll Tryz.prog os Rows.limitGuardsRow.laid)=true:=by kernel_rfl
end Go.Proofs.YtmaaepdecdhmnaaGreatDoor
end
section
open Go
namespace Go.Proofs.YtmaaepdecdhmnaaGreatDoor
set_option maxRecDepth 100000
def qSW(os:Os)(args:Array Value):((World.laidAll Tryz.prog os Rows.limitGuardsRow.laid).forCall (λ_ _=>0) ⟨#[],args,[]⟩).variablesZipB Tryz.prog=true:=by kernel_rfl
end Go.Proofs.YtmaaepdecdhmnaaGreatDoor
end
section
open Go
namespace Go.Proofs.YtmaaepdecdhmnaaGreatDoor
set_option maxRecDepth 100000
def qSS(os:Os)(args:Array Value):(((World.laidAll Tryz.prog os Rows.limitGuardsRow.laid).forCall (λ_ _=>0) ⟨#[],args,[]⟩).heap.toList.drop Tryz.prog.globals.size).take ((begin Tryz.prog (λ_ _=>0) default).world.heap.size-Tryz.prog.globals.size)=(begin Tryz.prog (λ_ _=>0) default).world.heap.toList.drop Tryz.prog.globals.size:=by kernel_rfl
end Go.Proofs.YtmaaepdecdhmnaaGreatDoor
end
section
open Go Go.Sim Go.RowKit Go.ChangeShapes Go.WideShapes
namespace Go.Proofs.YtmaaepdecdhmnaaGreatDoor
set_option maxRecDepth 100000
def own:ownKnob Tryz.prog.godebug=none:=by kernel_rfl
def qBr:(Rows.limitGuardsRow.laid.all λx=>x.2.handleName?.isNone)=true:=by kernel_rfl
def qKC:("internal/strconv.uint64pow10",(.agg (Lib.pow10Tab.map λz=>.lit (.int .u64 z)):DataW Unit))∈Rows.limitGuardsRow.laid:=zzi _ (zzi _ (zzi _ (zzr ..)))
def qKD:("strings.asciiSpace",(.agg (asciiL.map λz=>.lit (.int .u8 z)):DataW Unit))∈Rows.limitGuardsRow.laid:=zzi _ (zzi _ (zzi _ (zzi _ (zzi _ (zzi _ (zzi _ (zzr ..)))))))
def qKE:("strconv.ErrSyntax",(.iface "*errors.errorString" (.ptr (.agg [.lit (.string [105,110,118,97,108,105,100,32,115,121,110,116,97,120])])):DataW Unit))∈Rows.limitGuardsRow.laid:=zzi _ (zzi _ (zzi _ (zzi _ (zzi _ (zzr ..)))))
def qKF:("strconv.ErrRange",(.iface "*errors.errorString" (.ptr (.agg [.lit (.string [118,97,108,117,101,32,111,117,116,32,111,102,32,114,97,110,103,101])])):DataW Unit))∈Rows.limitGuardsRow.laid:=zzi _ (zzi _ (zzi _ (zzi _ (zzr ..))))
def qF7(os:Os)(args:Array Value):laidMetH Tryz.prog Rows.limitGuardsRow.laid ((World.laidAll Tryz.prog os Rows.limitGuardsRow.laid).forCall (λ_ _=>0) ⟨#[],args,[]⟩).memory:=by
 rw[MakeChecks.laidMetH_plain _ _ _ qBr];exact laidMet_laidAll _ (qSQ os) (qSR os)
def qF8(os:Os)(args:Array Value):((World.laidAll Tryz.prog os Rows.limitGuardsRow.laid).forCall (λ_ _=>0) ⟨#[],args,[]⟩).Shaped Tryz.prog:=World.shaped_of_ZipB (qSW os args) (qSS os args)
def lifted(os:Os)(started:os.Started)(H:Type)(enc:TypeId×Value->H) :
  ReturnsInHanded {} Tryz.checked os 4 .any (λw args=>(Rows.limitGuardsSpec.pre enc Tryz.prog Tryz.f4 [] false w args/\laidMetH Tryz.prog Rows.limitGuardsRow.laid w)/\sizedMet enc Tryz.prog Tryz.f4 (OpenSpec.ofChange Rows.limitGuardsSpec) false w args)
   (Rows.limitGuardsSpec.post enc Tryz.prog Tryz.f4 false true false false):=by
 refine returnsInHanded_of_change_and (C:=Tryz.checked) (X:=λw _=>laidMetH Tryz.prog Rows.limitGuardsRow.laid w) (λ_ _ _ hh h=>h.of_heap hh) own started (by kernel_rfl) Tryz.func4
  (ChangeSpec.witness_shaped (enc:=enc) (C:=Tryz.checked) (os:=os) (X:=λw _=>laidMetH Tryz.prog Rows.limitGuardsRow.laid w) false (World.laidAll Tryz.prog os Rows.limitGuardsRow.laid) #[.agg #[.slice none 0 0,.slice none 0 0,.slice none 0 0,.int .i64 0,.int .i64 0,.int .i64 0,.int .i64 0,.int .i64 0,.int .i64 0,.int .i64 0,.int .i64 0,.int .i64 0,.int .i64 0,.int .i64 0,.int .i64 0,.int .i64 0,.int .i64 0,.slice none 0 0,.slice none 0 0,.slice none 0 0,.slice none 0 0,.slice none 0 0],.agg #[.int .i64 0,.int .i64 0,.int .i64 0,.int .i64 0,.int .i64 0,.int .i64 0,.string ⟨#[]⟩,.string ⟨#[]⟩,.slice none 0 0,.int .u64 0]] 8 (World.laidAll_os _ _ _) (qF8 os _) (by kernel_rfl) (by kernel_rfl) (by kernel_rfl) (qF7 os _)) ?_
 intro W base args ds gs before hval0 hW _ hsz hX _;have hl:laidMet Tryz.prog Rows.limitGuardsRow.laid W:=(MakeChecks.laidMetH_plain _ _ _ qBr)▸hX
 have hval:∀(j:Nat) t v,Tryz.f4.params[j]? = some t->args[j]? = some v->Value.okWide Tryz.prog W .any base t v:=hval0
 have hW':=hW
 obtain⟨p,q,hA0,hV,rfl,hfz,hnd⟩:=hW;have hA:DataW.TrodAll enc Tryz.prog W 0 (λ_=>true) true Tryz.f4.params.toList args.toList ds p:=hA0
 rw[Tryz.params4]at hA hval;obtain⟨v0,v1,d0,d1,p0,p1,rfl,rfl,rfl,h0,h1⟩:=trodAll_two hA;obtain⟨rfl,rfl⟩:=trodVars_none hV;obtain⟨xs0,x0,a0,b0,c0⟩:=qwL (n:=12) (hval 0 33 v0 rfl rfl) h0 (qDD hsz 0 rfl rfl) (by kernel_rfl:qhD Tryz.prog 12 33=some (Ap.ty)) (by kernel_rfl:kq Tryz.prog 33=some (some 22))
 obtain⟨xs1,x1,a1,b1,c1⟩:=qwL (n:=12) (hval 1 37 v1 rfl rfl) h1 (qDD hsz 1 rfl rfl) (by kernel_rfl:qhD Tryz.prog 12 37=some (Af.ty)) (by kernel_rfl:kq Tryz.prog 37=some (some 10))
 exact qJs (tb:=4) qz8 (by kernel_rfl) (by kernel_rfl) (by kernel_rfl) rfl ⟨rfl,rfl,rfl⟩ hW' (law W v0 v1 x0 x1 xs0 xs1 a0 a1 b0 b1 c0 c1 (gok hl qKC qKD qKE qKF))
