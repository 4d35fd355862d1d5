/- Part 34 of the proof. -/
import Derived.Test.YtmaaepdecdhmnaaGreatDoorHB31
import Derived.Test.YtmaaepdecdhmnaaGreatDoorHB33
import Derived.Test.YtmaaepdecdhmnaaGreatDoorHB30
import Derived.Test.YtmaaepdecdhmnaaGreatDoorCards
set_option linter.all false
section
open Go
namespace Go.Proofs.YtmaaepdecdhmnaaGreatDoor
set_option maxRecDepth 100000
def jf3:(Tryz.f4.params.all (Tryz.prog.readableRec ·))=true:=by kernel_rfl
def jf7:((Rows.limitGuardsRow.knobs==[]))=true:=by kernel_rfl
def qHG:((Rows.limitGuardsRow.recurses==Tryz.prog.recurses 4))=true:=by kernel_rfl
def qHK:((Rows.limitGuardsRow.mapsOut==Tryz.prog.mapsAmong Tryz.f4.resultTypes.toList))=true:=by kernel_rfl
def qHO:(Tryz.f4.resultTypes.all (λt=>Tryz.prog.readableRec t&&decide (t<Tryz.prog.types.size)))=true:=by kernel_rfl
def qHS:(Rows.limitGuardsRow.shortTexts.isNone)=true:=by kernel_rfl
def qHW:((Tryz.prog.make==some Rows.limitGuardsRow.make))=true:=by kernel_rfl
def qH0:(Rows.limitGuardsRow.veiledFits Tryz.prog Tryz.f4.params.toList (Tryz.f4.params.toList++Rows.limitGuardsSpec.plain.varTypes Tryz.prog++Tryz.f4.resultTypes.toList))=true:=by kernel_rfl
end Go.Proofs.YtmaaepdecdhmnaaGreatDoor
end
section
open Go
namespace Go.Proofs.YtmaaepdecdhmnaaGreatDoor
set_option maxRecDepth 100000
def qFC:(clo.flatMap λg=>((Tryz.prog.funcs[g]?).bind (·.body)).elim [] Code.globalsNamed)=qFB:=by kernel_rfl
def qFD:(clo.filterMap λg=>(Tryz.prog.funcs[g]?).bind λfn=>if fn.body.isNone then entryReads.lookup fn.name else none)=["internal/bytealg.MaxLen"]:=by kernel_rfl
def qHH:((Rows.limitGuardsRow.named==Tryz.prog.varsNamed 4))=true:=by
 unfold Program.varsNamed;rw[qo0,qFC,qFD];kernel_rfl
end Go.Proofs.YtmaaepdecdhmnaaGreatDoor
end
section
open Go
namespace Go.Proofs.YtmaaepdecdhmnaaGreatDoor
set_option maxRecDepth 100000
def qbd{a b:Bool}(h:a=true)(k:b=true):(a&&b)=true:=by rw[h,k];rfl
def qFF:joinedFacts Tryz.prog 4 Tryz.f4 Rows.limitGuardsSpec Rows.limitGuardsRow=true:=
 qbd (qbd (qbd (qbd (qbd (qbd (qbd (qbd (qbd (qbd (qbd (qbd (qbd (qbd (qbd (qbd (qbd (qbd (qbd (qbd (qbd (qbd (qbd (qbd (qbd (qbd (qbd (qbd (qbd (qbd (qbd (jf0) qz8) jf2) jf3) jf4) jf5) jf6) jf7) jf8) jf9) qHF) qHG) qHH) qHI) qHJ) qHK) qHL) qHM) qHN) qHO) qHP) qHQ) qHR) qHS) qHT) qHU) qHV) qHW) qHX) qHY) qHZ) qH0
end Go.Proofs.YtmaaepdecdhmnaaGreatDoor
end
section
open Go Go.Sim Go.RowKit Go.ChangeShapes Go.WideShapes
namespace Go.Proofs.YtmaaepdecdhmnaaGreatDoor
set_option maxRecDepth 100000
def qJD:Rows.LimitGuardsSaid:=
 OpenClaim.holds_of_wide 4 Tryz.f4 rfl rfl rfl rfl rfl rfl rfl ⟨rfl,rfl,rfl,rfl,rfl⟩ rfl rfl rfl rfl rfl (by kernel_rfl) Tryz.func4 qFF
  (of_decide_eq_true (by kernel_rfl)) (by unfold Func.isWrapper;first|(rw[if_pos (by decide +kernel)];kernel_rfl)|(rw[if_neg (by decide +kernel)];exact⟨rfl,rfl⟩))
  (λos started H enc _=>lifted os started H enc)
end Go.Proofs.YtmaaepdecdhmnaaGreatDoor
end
section
open Go
namespace Go.Proofs.YtmaaepdecdhmnaaGreatDoor
set_option maxRecDepth 100000
def tw:Tryz.prog.worded (varsWordLater true)=true:=by kernel_rfl
def tw2:Tryz.prog.worded (varsWordLater !true)=false:=by kernel_rfl
def qQ4:Tryz.prog.worded rootWordLater=true:=by kernel_rfl
def tk:Rows.limitGuardsRow.laid.map (λx=>Tryz.prog.kindOfLater x.1)=([.data,.data,.data,.data,.sentinel,.sentinel,.listed,.data]:List LaidKind).map some:=by kernel_rfl
def tg:(Tryz.prog.funcNamed "gosem.cut.vars").isSome=true:=by kernel_rfl
def tp:(Rows.limitGuardsRow.laid.all λx=>x.2.handleName?.isNone)=true:=by kernel_rfl
def qLa:Tryz.prog.headLifts.contains "ownunsafe" = false:=by kernel_rfl
end Go.Proofs.YtmaaepdecdhmnaaGreatDoor
end
section
open Go
namespace Go.Proofs.YtmaaepdecdhmnaaGreatDoor
set_option maxRecDepth 100000
def tn:varsNamedLaterB Tryz.prog (varsId Tryz.prog) Rows.limitGuardsRow.laid=true:=by kernel_rfl
def td:∀os tape,varsDone Tryz.prog 400 (varsId Tryz.prog) os tape=true:=λ_ _=>by kernel_rfl
end Go.Proofs.YtmaaepdecdhmnaaGreatDoor
end
section
open Go
namespace Go.Proofs.YtmaaepdecdhmnaaGreatDoor
set_option maxRecDepth 100000
def t1:∀os tape,(DataW.laidRun Tryz.prog (varsWorld Tryz.prog 400 (varsId Tryz.prog) os tape).memory 8 (Rows.limitGuardsRow.laid.map (·.1))).map (·.1)=some Rows.limitGuardsRow.laid:=λ_ _=>by kernel_rfl
end Go.Proofs.YtmaaepdecdhmnaaGreatDoor
end
section
open Go
namespace Go.Proofs.YtmaaepdecdhmnaaGreatDoor
set_option maxRecDepth 100000
def t2b:∀os tape,(DataW.laidRun Tryz.prog (varsWorld Tryz.prog 400 (varsId Tryz.prog) os tape).memory 8 (Rows.limitGuardsRow.laid.map (·.1))).map (λx=>laidRowsB Tryz.prog (varsWorld Tryz.prog 400 (varsId Tryz.prog) os tape).memory x.2)=some true:=λ_ _=>by kernel_rfl
end Go.Proofs.YtmaaepdecdhmnaaGreatDoor
end
section
open Go
namespace Go.Proofs.YtmaaepdecdhmnaaGreatDoor
set_option maxRecDepth 100000
def cwf:Rows.limitGuardsRow.wfByText (OpenSpec.ofChange Rows.limitGuardsSpec)=true:=by kernel_rfl
def cfun:Tryz.prog.funcNamed "corebank/corebanklaw25.LimitGuards" = some 4:=by kernel_rfl
end Go.Proofs.YtmaaepdecdhmnaaGreatDoor
end
section
open Go
namespace Go.Proofs.YtmaaepdecdhmnaaGreatDoor
set_option maxRecDepth 100000
def qFJ:Tryz.prog.mainIs=some (true, "0bf118e6010913dd751bc11b45761ac2f5cbcf0bc2e2e1e064526ed66461a2a6".toList):=by kernel_rfl
end Go.Proofs.YtmaaepdecdhmnaaGreatDoor
end
section
open Go
namespace Go.Proofs.YtmaaepdecdhmnaaGreatDoor
set_option maxRecDepth 100000
def qFE:true=Tryz.prog.looks []:=by kernel_rfl
end Go.Proofs.YtmaaepdecdhmnaaGreatDoor
end
section
open Go
namespace Go.Proofs.YtmaaepdecdhmnaaGreatDoor
set_option maxRecDepth 100000
def qFX:([33,37].all λu=>!Tryz.prog.wantsStandIn u)=true:=by kernel_rfl
end Go.Proofs.YtmaaepdecdhmnaaGreatDoor
end
section
open Go
namespace Go.Proofs.YtmaaepdecdhmnaaGreatDoor
set_option maxRecDepth 100000
def qFr:(clo.any λg=>(Tryz.prog.funcs[g]?).any Func.goes)=false:=by kernel_rfl
end Go.Proofs.YtmaaepdecdhmnaaGreatDoor
end
section
open Go
namespace Go.Proofs.YtmaaepdecdhmnaaGreatDoor
set_option maxRecDepth 100000
def qFt:Tryz.prog.funcs.any Func.goes=false:=by kernel_rfl
def qFs:(Tryz.prog.unfollowed 4&&Tryz.prog.funcs.any Func.goes)=false:=by rw[qFt,Bool.and_false]
end Go.Proofs.YtmaaepdecdhmnaaGreatDoor
end
section
open Go
namespace Go.Proofs.YtmaaepdecdhmnaaGreatDoor
set_option maxRecDepth 100000
def qFu:false=Rows.limitGuardsRow.goesBy Tryz.prog:=by
 have h:Rows.limitGuardsRow.goesBy Tryz.prog=(((Tryz.prog.funcNamed "corebank/corebanklaw25.LimitGuards").any Tryz.prog.goes)||false):=rfl
 rw[h,cfun,Option.any_some,Bool.or_false];unfold Program.goes;rw[qo0,qFr,qFs];rfl
end Go.Proofs.YtmaaepdecdhmnaaGreatDoor
end
namespace Go.Sim
set_option maxRecDepth 100000
set_option maxHeartbeats 8000000
def mkey:MemPlace->Nat
 |.cell b o=>b*1024+o+1
 |_=>0
def distB:Nat->Cy->CG
 |_,[]=>true
 |acc,k::r=>!(acc.testBit k)&&distB (acc ||| (1 <<< k)) r
def qxG:∀(l:Cy) (acc:Nat),distB acc l=true->l.Nodup/\∀k∈l,acc.testBit k=false
 |[],_,_=>⟨List.nodup_nil,λ_ h=>by cases h⟩
 |k::r,acc,h=>by
  simp only[distB,zzf,Bool.not_eq_true']at h;obtain⟨h1,h2⟩:=h;obtain⟨i1,i2⟩:=qxG r _ h2;have hb:∀j∈r,acc.testBit j=false/\j≠k:=λj hj=>by
   have:=i2 j hj
   rw[Nat.testBit_or,zzD,Nat.one_shiftLeft]at this;refine⟨this.1,λe=>?_⟩
   subst e;rw[Nat.testBit_two_pow_self]at this;exact Bool.noConfusion this.2
  refine⟨List.nodup_cons.2 ⟨λhk=>(hb k hk).2 rfl,i1⟩,λj hj=>?_⟩
  rcases List.mem_cons.1 hj with rfl|hj
  ·exact h1
  ·exact (hb j hj).1
def nodup_of_distB{l:CF MemPlace}(h:distB 0 (l.map mkey)=true):l.Nodup:=by
 have:=(qxG _ _ h).1
 unfold List.Nodup at this⊢;rw[List.pairwise_map]at this;exact this.imp λh e=>h (by rw[e])
end Go.Sim
section
open Go
namespace Go.Proofs.YtmaaepdecdhmnaaGreatDoor
set_option maxRecDepth 100000
def t2k:∀os tape,(DataW.laidRun Tryz.prog (varsWorld Tryz.prog 400 (varsId Tryz.prog) os tape).memory 8 (Rows.limitGuardsRow.laid.map (·.1))).map (λx=>Go.Sim.distB 0 (x.2.map Go.Sim.mkey))=some true:=λ_ _=>by kernel_rfl
end Go.Proofs.YtmaaepdecdhmnaaGreatDoor
end
section
open Go
namespace Go.Proofs.YtmaaepdecdhmnaaGreatDoor
set_option maxRecDepth 100000
def t2(os:Os)(tape:Tape):(DataW.laidRun Tryz.prog (varsWorld Tryz.prog 400 (varsId Tryz.prog) os tape).memory 8 (Rows.limitGuardsRow.laid.map (·.1))).map (λx=>decide x.2.Nodup&&laidRowsB Tryz.prog (varsWorld Tryz.prog 400 (varsId Tryz.prog) os tape).memory x.2)=some true:=by
 have ha:=t2k os tape
 have hb:=t2b os tape
 revert ha hb
 cases DataW.laidRun Tryz.prog (varsWorld Tryz.prog 400 (varsId Tryz.prog) os tape).memory 8 (Rows.limitGuardsRow.laid.map (·.1))with
 |none=>intro h;cases h
 |some x=>
  intro ha hb;simp only[Option.map_some,Go.Sim.zzb]at ha hb⊢;rw[decide_eq_true (Go.Sim.nodup_of_distB ha),hb];rfl
def qK5:Tryz.prog.laidByTextLater Rows.limitGuardsRow.laid [.data,.data,.data,.data,.sentinel,.sentinel,.listed,.data] true:=
 Program.laidByTextLater_by_run 400 8 tw tw2 qQ4 tk tg tn td t1 t2 tp
def qK4:Rows.limitGuardsRow.laidByTextAt .later Tryz.pinned [.data,.data,.data,.data,.sentinel,.sentinel,.listed,.data] true:=
 OpenClaim.laidByTextAt_later rfl rfl qK5 qLa
end Go.Proofs.YtmaaepdecdhmnaaGreatDoor
end
section
open Go Go.Sim Go.RowKit Go.ChangeShapes Go.WideShapes
namespace Go.Proofs.YtmaaepdecdhmnaaGreatDoor
set_option maxRecDepth 100000
def limitGuards_card:Rows.LimitGuardsCardSaid:=
 Claim7.holds_tied_plain_at .later [] [.data,.data,.data,.data,.sentinel,.sentinel,.listed,.data] true (true, "0bf118e6010913dd751bc11b45761ac2f5cbcf0bc2e2e1e064526ed66461a2a6") true
  qJD (λ_ h=>by cases h) cwf (λ_ h=>by cases h) qK4 rfl ⟨rfl,rfl⟩ qFJ rfl
  (λf fn hf hfn=>by
   obtain rfl:f=4:=Option.some.inj (cfun.symm.trans hf) |>.symm;obtain rfl:fn=Tryz.f4:=(Option.some.inj (Tryz.func4.symm.trans hfn)).symm;exact⟨qFE,λj t ht=>by
    rw[Tryz.params4]at ht;have hm:t∈[33,37]:=by simpa using Array.mem_of_getElem? ht
    exact (show Tryz.prog.wantsStandIn t=false by simpa using List.all_eq_true.1 qFX t hm)⟩)
  qFu
#print axioms limitGuards_card
