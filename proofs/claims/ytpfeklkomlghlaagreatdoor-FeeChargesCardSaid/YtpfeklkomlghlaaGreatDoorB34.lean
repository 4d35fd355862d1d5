/- Part 34 of the proof. -/
import Derived.Test.YtpfeklkomlghlaaGreatDoorB31
import Derived.Test.YtpfeklkomlghlaaGreatDoorB33
import Derived.Test.YtpfeklkomlghlaaGreatDoorB30
import Derived.Test.YtpfeklkomlghlaaGreatDoorCards
set_option linter.all false
section
open Go
namespace Go.Proofs.YtpfeklkomlghlaaGreatDoor
set_option maxRecDepth 100000
def jf3:(Tryz.f3.params.all (Tryz.prog.readableRec ·))=true:=by kernel_rfl
def jf7:((Rows.feeChargesRow.knobs==[]))=true:=by kernel_rfl
def qHg:((Rows.feeChargesRow.recurses==Tryz.prog.recurses 3))=true:=by kernel_rfl
def qHk:((Rows.feeChargesRow.mapsOut==Tryz.prog.mapsAmong Tryz.f3.resultTypes.toList))=true:=by kernel_rfl
def qHo:(Tryz.f3.resultTypes.all (λt=>Tryz.prog.readableRec t&&decide (t<Tryz.prog.types.size)))=true:=by kernel_rfl
def qHs:(Rows.feeChargesRow.shortTexts.isNone)=true:=by kernel_rfl
def qHw:((Tryz.prog.make==some Rows.feeChargesRow.make))=true:=by kernel_rfl
def qHA:(Rows.feeChargesRow.veiledFits Tryz.prog Tryz.f3.params.toList (Tryz.f3.params.toList++Rows.feeChargesSpec.plain.varTypes Tryz.prog++Tryz.f3.resultTypes.toList))=true:=by kernel_rfl
end Go.Proofs.YtpfeklkomlghlaaGreatDoor
end
section
open Go
namespace Go.Proofs.YtpfeklkomlghlaaGreatDoor
set_option maxRecDepth 100000
def qE5:(clo.flatMap λg=>((Tryz.prog.funcs[g]?).bind (·.body)).elim [] Code.globalsNamed)=qE4:=by kernel_rfl
def qE6:(clo.filterMap λg=>(Tryz.prog.funcs[g]?).bind λfn=>if fn.body.isNone then entryReads.lookup fn.name else none)=["internal/bytealg.MaxLen"]:=by kernel_rfl
def qHh:((Rows.feeChargesRow.named==Tryz.prog.varsNamed 3))=true:=by unfold Program.varsNamed;rw[qoG,qE5,qE6];kernel_rfl
end Go.Proofs.YtpfeklkomlghlaaGreatDoor
end
section
open Go
namespace Go.Proofs.YtpfeklkomlghlaaGreatDoor
set_option maxRecDepth 100000
def qbs{a b:Bool}(h:a=true)(k:b=true):(a&&b)=true:=by rw[h,k];rfl
def qFa:joinedFacts Tryz.prog 3 Tryz.f3 Rows.feeChargesSpec Rows.feeChargesRow=true:=
 qbs (qbs (qbs (qbs (qbs (qbs (qbs (qbs (qbs (qbs (qbs (qbs (qbs (qbs (qbs (qbs (qbs (qbs (qbs (qbs (qbs (qbs (qbs (qbs (qbs (qbs (qbs (qbs (qbs (qbs (qbs (jf0) qzU) jf2) jf3) jf4) jf5) jf6) jf7) jf8) jf9) qHf) qHg) qHh) qHi) qHj) qHk) qHl) qHm) qHn) qHo) qHp) qHq) qHr) qHs) qHt) qHu) qHv) qHw) qHx) qHy) qHz) qHA
end Go.Proofs.YtpfeklkomlghlaaGreatDoor
end
section
open Go Go.Sim Go.RowKit Go.ChangeShapes Go.WideShapes
namespace Go.Proofs.YtpfeklkomlghlaaGreatDoor
set_option maxRecDepth 100000
def qFZ:Rows.FeeChargesSaid:=
 OpenClaim.holds_of_wide 3 Tryz.f3 rfl rfl rfl rfl rfl rfl rfl ⟨rfl,rfl,rfl,rfl,rfl⟩ rfl rfl rfl rfl rfl (by kernel_rfl) Tryz.func3 qFa
  (of_decide_eq_true (by kernel_rfl)) (by unfold Func.isWrapper;first|(rw[if_pos (by decide +kernel)];kernel_rfl)|(rw[if_neg (by decide +kernel)];exact⟨rfl,rfl⟩))
  (λos started H enc _=>lifted os started H enc)
end Go.Proofs.YtpfeklkomlghlaaGreatDoor
end
section
open Go
namespace Go.Proofs.YtpfeklkomlghlaaGreatDoor
set_option maxRecDepth 100000
def tw:Tryz.prog.worded (varsWordLater true)=true:=by kernel_rfl
def tw2:Tryz.prog.worded (varsWordLater !true)=false:=by kernel_rfl
def qQq:Tryz.prog.worded rootWordLater=true:=by kernel_rfl
def tk:Rows.feeChargesRow.laid.map (λx=>Tryz.prog.kindOfLater x.1)=([.data,.data,.data,.data,.sentinel,.sentinel,.listed,.data]:List LaidKind).map some:=by kernel_rfl
def tg:(Tryz.prog.funcNamed "gosem.cut.vars").isSome=true:=by kernel_rfl
def tp:(Rows.feeChargesRow.laid.all λx=>x.2.handleName?.isNone)=true:=by kernel_rfl
def qKJ:Tryz.prog.headLifts.contains "ownunsafe" = false:=by kernel_rfl
end Go.Proofs.YtpfeklkomlghlaaGreatDoor
end
section
open Go
namespace Go.Proofs.YtpfeklkomlghlaaGreatDoor
set_option maxRecDepth 100000
def tn:varsNamedLaterB Tryz.prog (varsId Tryz.prog) Rows.feeChargesRow.laid=true:=by kernel_rfl
def td:∀os tape,varsDone Tryz.prog 400 (varsId Tryz.prog) os tape=true:=λ_ _=>by kernel_rfl
end Go.Proofs.YtpfeklkomlghlaaGreatDoor
end
section
open Go
namespace Go.Proofs.YtpfeklkomlghlaaGreatDoor
set_option maxRecDepth 100000
def t1:∀os tape,(DataW.laidRun Tryz.prog (varsWorld Tryz.prog 400 (varsId Tryz.prog) os tape).memory 8 (Rows.feeChargesRow.laid.map (·.1))).map (·.1)=some Rows.feeChargesRow.laid:=λ_ _=>by kernel_rfl
end Go.Proofs.YtpfeklkomlghlaaGreatDoor
end
section
open Go
namespace Go.Proofs.YtpfeklkomlghlaaGreatDoor
set_option maxRecDepth 100000
def t2b:∀os tape,(DataW.laidRun Tryz.prog (varsWorld Tryz.prog 400 (varsId Tryz.prog) os tape).memory 8 (Rows.feeChargesRow.laid.map (·.1))).map (λx=>laidRowsB Tryz.prog (varsWorld Tryz.prog 400 (varsId Tryz.prog) os tape).memory x.2)=some true:=λ_ _=>by kernel_rfl
end Go.Proofs.YtpfeklkomlghlaaGreatDoor
end
section
open Go
namespace Go.Proofs.YtpfeklkomlghlaaGreatDoor
set_option maxRecDepth 100000
def cwf:Rows.feeChargesRow.wfByText (OpenSpec.ofChange Rows.feeChargesSpec)=true:=by kernel_rfl
def cfun:Tryz.prog.funcNamed "corebank/corebanklaw28.FeeCharges" = some 3:=by kernel_rfl
end Go.Proofs.YtpfeklkomlghlaaGreatDoor
end
section
open Go
namespace Go.Proofs.YtpfeklkomlghlaaGreatDoor
set_option maxRecDepth 100000
def qFe:Tryz.prog.mainIs=some (true, "90eddab64f2557b976f4c6cd6e8ee3216f32ff1d24323ae56903a5f469779f78".toList):=by kernel_rfl
end Go.Proofs.YtpfeklkomlghlaaGreatDoor
end
section
open Go
namespace Go.Proofs.YtpfeklkomlghlaaGreatDoor
set_option maxRecDepth 100000
def qE9:true=Tryz.prog.looks []:=by kernel_rfl
end Go.Proofs.YtpfeklkomlghlaaGreatDoor
end
section
open Go
namespace Go.Proofs.YtpfeklkomlghlaaGreatDoor
set_option maxRecDepth 100000
def qFr:([33,35].all λu=>!Tryz.prog.wantsStandIn u)=true:=by kernel_rfl
end Go.Proofs.YtpfeklkomlghlaaGreatDoor
end
section
open Go
namespace Go.Proofs.YtpfeklkomlghlaaGreatDoor
set_option maxRecDepth 100000
def qES:(clo.any λg=>(Tryz.prog.funcs[g]?).any Func.goes)=false:=by kernel_rfl
end Go.Proofs.YtpfeklkomlghlaaGreatDoor
end
section
open Go
namespace Go.Proofs.YtpfeklkomlghlaaGreatDoor
set_option maxRecDepth 100000
def qEU:Tryz.prog.funcs.any Func.goes=false:=by kernel_rfl
def qET:(Tryz.prog.unfollowed 3&&Tryz.prog.funcs.any Func.goes)=false:=by rw[qEU,Bool.and_false]
end Go.Proofs.YtpfeklkomlghlaaGreatDoor
end
section
open Go
namespace Go.Proofs.YtpfeklkomlghlaaGreatDoor
set_option maxRecDepth 100000
def qEV:false=Rows.feeChargesRow.goesBy Tryz.prog:=by
 have h:Rows.feeChargesRow.goesBy Tryz.prog=(((Tryz.prog.funcNamed "corebank/corebanklaw28.FeeCharges").any Tryz.prog.goes)||false):=rfl
 rw[h,cfun,Option.any_some,Bool.or_false];unfold Program.goes;rw[qoG,qES,qET];rfl
end Go.Proofs.YtpfeklkomlghlaaGreatDoor
end
namespace Go.Sim
set_option maxRecDepth 100000
set_option maxHeartbeats 8000000
def mkey:MemPlace->Nat
 |.cell b o=>b*1024+o+1
 |_=>0
def distB:Nat->CF->CO
 |_,[]=>true
 |acc,k::r=>!(acc.testBit k)&&distB (acc ||| (1 <<< k)) r
def qxr:∀(l:CF) (acc:Nat),distB acc l=true->l.Nodup/\∀k∈l,acc.testBit k=false
 |[],_,_=>⟨List.nodup_nil,λ_ h=>by cases h⟩
 |k::r,acc,h=>by
  simp only[distB,zzf,Bool.not_eq_true']at h;obtain⟨h1,h2⟩:=h;obtain⟨i1,i2⟩:=qxr r _ h2;have hb:∀j∈r,acc.testBit j=false/\j≠k:=λj hj=>by have:=i2 j hj;rw[Nat.testBit_or,zzD,Nat.one_shiftLeft]at this;refine⟨this.1,λe=>?_⟩;subst e;rw[Nat.testBit_two_pow_self]at this;exact Bool.noConfusion this.2
  refine⟨List.nodup_cons.2 ⟨λhk=>(hb k hk).2 rfl,i1⟩,λj hj=>?_⟩;rcases List.mem_cons.1 hj with rfl|hj
  ·exact h1
  ·exact (hb j hj).1
def nodup_of_distB{l:CL MemPlace}(h:distB 0 (l.map mkey)=true):l.Nodup:=by have:=(qxr _ _ h).1;unfold List.Nodup at this⊢;rw[List.pairwise_map]at this;exact this.imp λh e=>h (by rw[e])
end Go.Sim
section
open Go
namespace Go.Proofs.YtpfeklkomlghlaaGreatDoor
set_option maxRecDepth 100000
def t2k:∀os tape,(DataW.laidRun Tryz.prog (varsWorld Tryz.prog 400 (varsId Tryz.prog) os tape).memory 8 (Rows.feeChargesRow.laid.map (·.1))).map (λx=>Go.Sim.distB 0 (x.2.map Go.Sim.mkey))=some true:=λ_ _=>by kernel_rfl
end Go.Proofs.YtpfeklkomlghlaaGreatDoor
end
section
open Go
namespace Go.Proofs.YtpfeklkomlghlaaGreatDoor
set_option maxRecDepth 100000
def t2(os:Os)(tape:Tape):(DataW.laidRun Tryz.prog (varsWorld Tryz.prog 400 (varsId Tryz.prog) os tape).memory 8 (Rows.feeChargesRow.laid.map (·.1))).map (λx=>decide x.2.Nodup&&laidRowsB Tryz.prog (varsWorld Tryz.prog 400 (varsId Tryz.prog) os tape).memory x.2)=some true:=by
 have ha:=t2k os tape;have hb:=t2b os tape;revert ha hb;cases DataW.laidRun Tryz.prog (varsWorld Tryz.prog 400 (varsId Tryz.prog) os tape).memory 8 (Rows.feeChargesRow.laid.map (·.1))with
 |none=>intro h;cases h
 |some x=>intro ha hb;simp only[Option.map_some,Go.Sim.zzb]at ha hb⊢;rw[decide_eq_true (Go.Sim.nodup_of_distB ha),hb];rfl
def qKD:Tryz.prog.laidByTextLater Rows.feeChargesRow.laid [.data,.data,.data,.data,.sentinel,.sentinel,.listed,.data] true:=
 Program.laidByTextLater_by_run 400 8 tw tw2 qQq tk tg tn td t1 t2 tp
def qKC:Rows.feeChargesRow.laidByTextAt .later Tryz.pinned [.data,.data,.data,.data,.sentinel,.sentinel,.listed,.data] true:=
 OpenClaim.laidByTextAt_later rfl rfl qKD qKJ
end Go.Proofs.YtpfeklkomlghlaaGreatDoor
end
section
open Go Go.Sim Go.RowKit Go.ChangeShapes Go.WideShapes
namespace Go.Proofs.YtpfeklkomlghlaaGreatDoor
set_option maxRecDepth 100000
def feeCharges_card:Rows.FeeChargesCardSaid:=
 Claim7.holds_tied_plain_at .later [] [.data,.data,.data,.data,.sentinel,.sentinel,.listed,.data] true (true, "90eddab64f2557b976f4c6cd6e8ee3216f32ff1d24323ae56903a5f469779f78") true
  qFZ (λ_ h=>by cases h) cwf (λ_ h=>by cases h) qKC rfl ⟨rfl,rfl⟩ qFe rfl
  (λf fn hf hfn=>by
   obtain rfl:f=3:=Option.some.inj (cfun.symm.trans hf) |>.symm;obtain rfl:fn=Tryz.f3:=(Option.some.inj (Tryz.func3.symm.trans hfn)).symm;exact⟨qE9,λj t ht=>by
    rw[Tryz.params3]at ht;have hm:t∈[33,35]:=by simpa using Array.mem_of_getElem? ht
    exact (show Tryz.prog.wantsStandIn t=false by simpa using List.all_eq_true.1 qFr t hm)⟩)
  qEV
#print axioms feeCharges_card
