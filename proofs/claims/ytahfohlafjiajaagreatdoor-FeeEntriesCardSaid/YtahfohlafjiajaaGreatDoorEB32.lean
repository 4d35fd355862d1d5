/- Part 32 of the proof: CbRow28E. -/
import Derived.Test.YtahfohlafjiajaaGreatDoorEB26
import Derived.Test.YtahfohlafjiajaaGreatDoorRows
import Derived.SevenTiedAt
import Derived.MakeChecks
import Derived.Lay
import Derived.Test.YtahfohlafjiajaaGreatDoorEB27
import Derived.Test.YtahfohlafjiajaaGreatDoorEB28
import Derived.Test.YtahfohlafjiajaaGreatDoorEB29
import Derived.Test.YtahfohlafjiajaaGreatDoorEB30
import Derived.Test.YtahfohlafjiajaaGreatDoorEB31
open Go Go.Sim Go.RowKit Go.ChangeShapes Go.WideShapes
namespace Go.Proofs.YtahfohlafjiajaaGreatDoor
set_option maxRecDepth 100000
theorem own:ownKnob Tryz.prog.godebug=none:=by kernel_rfl
theorem qwj:(Rows.feeEntriesRow.laid.all fun x=>x.2.handleName?.isNone)=true:=by kernel_rfl
theorem qCE:("internal/strconv.uint64pow10",(.agg (Lib.pow10Tab.map fun z=>.lit (.int .u64 z)):DataW Unit))∈Rows.feeEntriesRow.laid:=zzi _ (zzi _ (zzi _ (zzr ..)))
theorem qCF:("strings.asciiSpace",(.agg (asciiL.map fun z=>.lit (.int .u8 z)):DataW Unit))∈Rows.feeEntriesRow.laid:=zzi _ (zzi _ (zzi _ (zzi _ (zzi _ (zzi _ (zzi _ (zzr ..)))))))
theorem qCG:("strconv.ErrSyntax",(.iface "*errors.errorString" (.ptr (.agg [.lit (.string [105,110,118,97,108,105,100,32,115,121,110,116,97,120])])):DataW Unit))∈Rows.feeEntriesRow.laid:=zzi _ (zzi _ (zzi _ (zzi _ (zzi _ (zzr ..)))))
theorem qCH:("strconv.ErrRange",(.iface "*errors.errorString" (.ptr (.agg [.lit (.string [118,97,108,117,101,32,111,117,116,32,111,102,32,114,97,110,103,101])])):DataW Unit))∈Rows.feeEntriesRow.laid:=zzi _ (zzi _ (zzi _ (zzi _ (zzr ..))))
theorem qzu (os:Os) (args:Array Value):laidMetH Tryz.prog Rows.feeEntriesRow.laid ((World.laidAll Tryz.prog os Rows.feeEntriesRow.laid).forCall (fun _ _=>0) ⟨#[],args,[]⟩).memory:=by
 rw[MakeChecks.laidMetH_plain _ _ _ qwj];exact laidMet_laidAll _ (qKi os) (qKj os)
theorem qzv (os:Os) (args:Array Value):((World.laidAll Tryz.prog os Rows.feeEntriesRow.laid).forCall (fun _ _=>0) ⟨#[],args,[]⟩).Shaped Tryz.prog:=World.shaped_of_ZipB (qKn os args) (qKk os args)
theorem lifted (os:Os) (started:os.Started) (H:Type) (enc:TypeId×Value→H) :
  ReturnsInHanded {} Tryz.checked os 4 .any (fun w args=>(Rows.feeEntriesSpec.pre enc Tryz.prog Tryz.f4 [] false w args∧laidMetH Tryz.prog Rows.feeEntriesRow.laid w)∧sizedMet enc Tryz.prog Tryz.f4 (OpenSpec.ofChange Rows.feeEntriesSpec) false w args)
   (Rows.feeEntriesSpec.post enc Tryz.prog Tryz.f4 false true false false):=by
 refine returnsInHanded_of_change_and (C:=Tryz.checked) (X:=fun w _=>laidMetH Tryz.prog Rows.feeEntriesRow.laid w) (fun _ _ _ hh h=>h.of_heap hh) own started (by kernel_rfl) Tryz.func4
  (ChangeSpec.witness_shaped (enc:=enc) (C:=Tryz.checked) (os:=os) (X:=fun w _=>laidMetH Tryz.prog Rows.feeEntriesRow.laid w) false (World.laidAll Tryz.prog os Rows.feeEntriesRow.laid) #[.agg #[.slice none 0 0,.slice none 0 0,.slice none 0 0,.int .i64 0,.int .i64 0,.int .i64 0,.int .i64 0,.int .i64 0,.int .i64 0,.int .i64 0,.int .i64 0,.int .i64 0,.int .i64 0,.int .i64 0,.int .i64 0,.int .i64 0,.int .i64 0,.slice none 0 0,.slice none 0 0,.slice none 0 0,.slice none 0 0,.slice none 0 0],.agg #[.int .i64 0,.int .i64 0,.int .i64 0,.int .i64 0],.slice none 0 0] 8 (World.laidAll_os _ _ _) (qzv os _) (by kernel_rfl) (by kernel_rfl) (by kernel_rfl) (qzu os _)) ?_
 intro W base args ds gs before hval0 hW _ hsz hX _;have hl:laidMet Tryz.prog Rows.feeEntriesRow.laid W:=(MakeChecks.laidMetH_plain _ _ _ qwj)▸hX
 have hval : ∀(j:Nat) t v,Tryz.f4.params[j]? = some t→args[j]? = some v→Value.okWide Tryz.prog W .any base t v:=hval0
 have hW':=hW
 obtain⟨p,q,hA0,hV,rfl,hfz,hnd⟩:=hW;have hA:DataW.TrodAll enc Tryz.prog W 0 (fun _=>true) true Tryz.f4.params.toList args.toList ds p:=hA0
 rw[Tryz.params4] at hA hval;obtain⟨v0,v1,v2,d0,d1,d2,p0,p1,p2,rfl,rfl,rfl,h0,h1,h2⟩:=trodAll_three hA;obtain⟨rfl,rfl⟩:=trodVars_none hV;obtain⟨xs0,x0,a0,b0,c0⟩:=qpf (n:=12) (hval 0 33 v0 rfl rfl) h0 (qsI hsz 0 rfl rfl) (by kernel_rfl:qhu Tryz.prog 12 33=some (ABooks.ty)) (by kernel_rfl:kq Tryz.prog 33=some (some 22))
 obtain⟨xs1,x1,a1,b1,c1⟩:=qpf (n:=12) (hval 1 35 v1 rfl rfl) h1 (qsI hsz 1 rfl rfl) (by kernel_rfl:qhu Tryz.prog 12 35=some [.i .i64,.i .i64,.i .i64,.i .i64]) (by kernel_rfl:kq Tryz.prog 35=some (some 4))
 obtain⟨xs2,x2,a2,b2,c2⟩:=qpf (n:=12) (hval 2 38 v2 rfl rfl) h2 (qsI hsz 2 rfl rfl) (by kernel_rfl:qhu Tryz.prog 12 38=some [.l (K1 2) 24 ACharge.ty]) (by kernel_rfl:kq Tryz.prog 38=some none)
 exact qBg (tb:=4) qvn (by kernel_rfl) (by kernel_rfl) (by kernel_rfl) rfl ⟨rfl,rfl,rfl⟩ hW' (law W v0 v1 v2 x0 x1 x2 xs0 xs1 xs2 a0 a1 a2 b0 b1 b2 c0 c1 c2 (gok hl qCE qCF qCG qCH))
end Go.Proofs.YtahfohlafjiajaaGreatDoor

