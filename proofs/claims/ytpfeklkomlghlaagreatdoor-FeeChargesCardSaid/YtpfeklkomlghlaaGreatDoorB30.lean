/- Part 30 of the proof. -/
import Derived.Test.YtpfeklkomlghlaaGreatDoorB27
import Derived.SevenTiedAt
import Derived.Test.YtpfeklkomlghlaaGreatDoorB28
import Derived.Test.YtpfeklkomlghlaaGreatDoorB29
set_option linter.all false
section
open Go
namespace Go.Proofs.YtpfeklkomlghlaaGreatDoor
set_option maxRecDepth 100000
def qSa(os:Os):(World.holding Tryz.prog os ⟨#[],#[],[]⟩).layIfaces Tryz.prog Rows.feeChargesRow.laid (World.laidAll Tryz.prog os Rows.feeChargesRow.laid)=true:=by kernel_rfl
end Go.Proofs.YtpfeklkomlghlaaGreatDoor
end
section
open Go
namespace Go.Proofs.YtpfeklkomlghlaaGreatDoor
set_option maxRecDepth 100000
def qSf(os:Os)(args:Array Value):((World.laidAll Tryz.prog os Rows.feeChargesRow.laid).forCall (λ_ _=>0) ⟨#[],args,[]⟩).variablesZipB Tryz.prog=true:=by kernel_rfl
end Go.Proofs.YtpfeklkomlghlaaGreatDoor
end
section
open Go
namespace Go.Proofs.YtpfeklkomlghlaaGreatDoor
set_option maxRecDepth 100000
def qSb(os:Os)(args:Array Value):(((World.laidAll Tryz.prog os Rows.feeChargesRow.laid).forCall (λ_ _=>0) ⟨#[],args,[]⟩).heap.toList.drop Tryz.prog.globals.size).take ((begin Tryz.prog (λ_ _=>0) default).world.heap.size-Tryz.prog.globals.size)=(begin Tryz.prog (λ_ _=>0) default).world.heap.toList.drop Tryz.prog.globals.size:=by kernel_rfl
end Go.Proofs.YtpfeklkomlghlaaGreatDoor
end
section
open Go Go.Sim Go.RowKit Go.ChangeShapes Go.WideShapes
namespace Go.Proofs.YtpfeklkomlghlaaGreatDoor
set_option maxRecDepth 100000
def own:ownKnob Tryz.prog.godebug=none:=by kernel_rfl
def qBa:(Rows.feeChargesRow.laid.all λx=>x.2.handleName?.isNone)=true:=by kernel_rfl
def qJ7:("internal/strconv.uint64pow10",(.agg (Lib.pow10Tab.map λz=>.lit (.int .u64 z)):DataW Unit))∈Rows.feeChargesRow.laid:=zzi _ (zzi _ (zzi _ (zzr ..)))
def qJ8:("strings.asciiSpace",(.agg (asciiL.map λz=>.lit (.int .u8 z)):DataW Unit))∈Rows.feeChargesRow.laid:=zzi _ (zzi _ (zzi _ (zzi _ (zzi _ (zzi _ (zzi _ (zzr ..)))))))
def qJ9:("strconv.ErrSyntax",(.iface "*errors.errorString" (.ptr (.agg [.lit (.string [105,110,118,97,108,105,100,32,115,121,110,116,97,120])])):DataW Unit))∈Rows.feeChargesRow.laid:=zzi _ (zzi _ (zzi _ (zzi _ (zzi _ (zzr ..)))))
def qKa:("strconv.ErrRange",(.iface "*errors.errorString" (.ptr (.agg [.lit (.string [118,97,108,117,101,32,111,117,116,32,111,102,32,114,97,110,103,101])])):DataW Unit))∈Rows.feeChargesRow.laid:=zzi _ (zzi _ (zzi _ (zzi _ (zzr ..))))
def qFA(os:Os)(args:Array Value):laidMetH Tryz.prog Rows.feeChargesRow.laid ((World.laidAll Tryz.prog os Rows.feeChargesRow.laid).forCall (λ_ _=>0) ⟨#[],args,[]⟩).memory:=by rw[MakeChecks.laidMetH_plain _ _ _ qBa];exact laidMet_laidAll _ (qR9 os) (qSa os)
def qFB(os:Os)(args:Array Value):((World.laidAll Tryz.prog os Rows.feeChargesRow.laid).forCall (λ_ _=>0) ⟨#[],args,[]⟩).Shaped Tryz.prog:=World.shaped_of_ZipB (qSf os args) (qSb os args)
def lifted(os:Os)(started:os.Started)(H:Type)(enc:TypeId×Value->H) :
  ReturnsInHanded {} Tryz.checked os 3 .any (λw args=>(Rows.feeChargesSpec.pre enc Tryz.prog Tryz.f3 [] false w args/\laidMetH Tryz.prog Rows.feeChargesRow.laid w)/\sizedMet enc Tryz.prog Tryz.f3 (OpenSpec.ofChange Rows.feeChargesSpec) false w args)
   (Rows.feeChargesSpec.post enc Tryz.prog Tryz.f3 false true false false):=by
 refine returnsInHanded_of_change_and (C:=Tryz.checked) (X:=λw _=>laidMetH Tryz.prog Rows.feeChargesRow.laid w) (λ_ _ _ hh h=>h.of_heap hh) own started (by kernel_rfl) Tryz.func3
  (ChangeSpec.witness_shaped (enc:=enc) (C:=Tryz.checked) (os:=os) (X:=λw _=>laidMetH Tryz.prog Rows.feeChargesRow.laid w) false (World.laidAll Tryz.prog os Rows.feeChargesRow.laid) #[.agg #[.slice none 0 0,.slice none 0 0,.slice none 0 0,.int .i64 0,.int .i64 0,.int .i64 0,.int .i64 0,.int .i64 0,.int .i64 0,.int .i64 0,.int .i64 0,.int .i64 0,.int .i64 0,.int .i64 0,.int .i64 0,.int .i64 0,.int .i64 0,.slice none 0 0,.slice none 0 0,.slice none 0 0,.slice none 0 0,.slice none 0 0],.agg #[.int .i64 0,.int .i64 0,.int .i64 0,.int .i64 0]] 8 (World.laidAll_os _ _ _) (qFB os _) (by kernel_rfl) (by kernel_rfl) (by kernel_rfl) (qFA os _)) ?_
 intro W base args ds gs before hval0 hW _ hsz hX _;have hl:laidMet Tryz.prog Rows.feeChargesRow.laid W:=(MakeChecks.laidMetH_plain _ _ _ qBa)▸hX;have hval:∀(j:Nat) t v,Tryz.f3.params[j]? = some t->args[j]? = some v->Value.okWide Tryz.prog W .any base t v:=hval0;have hW':=hW;obtain⟨p,q,hA0,hV,rfl,hfz,hnd⟩:=hW;have hA:DataW.TrodAll enc Tryz.prog W 0 (λ_=>true) true Tryz.f3.params.toList args.toList ds p:=hA0;rw[Tryz.params3]at hA hval;obtain⟨v0,v1,d0,d1,p0,p1,rfl,rfl,rfl,h0,h1⟩:=trodAll_two hA;obtain⟨rfl,rfl⟩:=trodVars_none hV;obtain⟨xs0,x0,a0,b0,c0⟩:=qwy (n:=12) (hval 0 33 v0 rfl rfl) h0 (qDd hsz 0 rfl rfl) (by kernel_rfl:qhB Tryz.prog 12 33=some (Af.ty)) (by kernel_rfl:kq Tryz.prog 33=some (some 22))
 obtain⟨xs1,x1,a1,b1,c1⟩:=qwy (n:=12) (hval 1 35 v1 rfl rfl) h1 (qDd hsz 1 rfl rfl) (by kernel_rfl:qhB Tryz.prog 12 35=some [.i .i64,.i .i64,.i .i64,.i .i64]) (by kernel_rfl:kq Tryz.prog 35=some (some 4));exact qI5 (tb:=4) qzU (by kernel_rfl) (by kernel_rfl) (by kernel_rfl) rfl ⟨rfl,rfl,rfl⟩ hW' (law W v0 v1 x0 x1 xs0 xs1 a0 a1 b0 b1 c0 c1 (gok hl qJ7 qJ8 qJ9 qKa))
